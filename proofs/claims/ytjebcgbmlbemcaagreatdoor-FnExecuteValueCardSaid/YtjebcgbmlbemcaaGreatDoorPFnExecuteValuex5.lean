-- Made by a program of this session (wip/tools) out of the loaded program; not trusted: Lean checks it.
import Derived.Test.YtjebcgbmlbemcaaGreatDoorXE
import Derived.Test.YtjebcgbmlbemcaaGreatDoorXC
import Derived.Test.YtjebcgbmlbemcaaGreatDoorPFnExecuteValuex0
import Derived.Test.YtjebcgbmlbemcaaGreatDoorPFnExecuteValuex1
import Derived.Test.YtjebcgbmlbemcaaGreatDoorPFnExecuteValuex2
import Derived.Test.YtjebcgbmlbemcaaGreatDoorPFnExecuteValuex4
-- packed
namespace Go.Proofs.YtjebcgbmlbemcaaGreatDoor.PFnExecuteValue
open Go.RowKit Go.Proofs.YtjebcgbmlbemcaaGreatDoorW.PrintWords Go.Proofs.YtjebcgbmlbemcaaGreatDoorW.PrintLast Go.Proofs.YtjebcgbmlbemcaaGreatDoorW.PrintMore
attribute [local go_sem] max2_int min2_int max_two min_two max_three min_three max_four min_four   -- for this text's walks alone
set_option linter.unusedVariables false
set_option linter.unusedSimpArgs false

/-! ### impl_PermFrom: function 66 -/
mutual
def impl_PermFrom.j0 : Nat → Int → ByteArray → Bool → Option (List Int × Bool)
  | 0, _, _, _ => none
  | k + 1, x0, x1, x25 => if x25 = true then (some (([] : List Int), false)) else ((impl_still.f k x0).bind fun t211 => (impl_PermFrom.l0 k x0 x1 t211 x1))
def impl_PermFrom.l0 : Nat → Int → ByteArray → List Int → ByteArray → Option (List Int × Bool)
  | 0, _, _, _, _ => none
  | k + 1, x0, x1, x6, x7 => if x7.toList = ([] : List UInt8) then (impl_PermFrom.j2 k x0 x1 x6 x7 false) else (impl_PermFrom.j2 k x0 x1 x6 x7 (x1.toList != ([40, 41] : List UInt8)))
def impl_PermFrom.j2 : Nat → Int → ByteArray → List Int → ByteArray → Bool → Option (List Int × Bool)
  | 0, _, _, _, _, _ => none
  | k + 1, x0, x1, x6, x7, x34 => if x34 = true then ((strings_CutPrefix.f x7 (⟨#[40]⟩ : ByteArray)).bind fun bt215 => ((strings_Cut.f bt215.1 (⟨#[41]⟩ : ByteArray)).bind fun bt217 => (if bt215.2 = true then (impl_PermFrom.j3 k x0 x1 x6 bt217.1 bt217.2.1 (!bt217.2.2)) else (impl_PermFrom.j3 k x0 x1 x6 bt217.1 bt217.2.1 true)))) else ((impl_PermText.f k x6).bind fun t214 => (if t214.toList = x1.toList then (some (x6, true)) else (some (([] : List Int), false))))
def impl_PermFrom.j3 : Nat → Int → ByteArray → List Int → ByteArray → ByteArray → Bool → Option (List Int × Bool)
  | 0, _, _, _, _, _, _ => none
  | k + 1, x0, x1, x6, x10, x11, x51 => if x51 = true then (some (([] : List Int), false)) else ((strings_Split.f x10 (⟨#[44]⟩ : ByteArray)).bind fun t223 => (impl_PermFrom.l1 k x0 x1 x6 x11 (([] : List Int)) t223 (t223.length : Int) 0))
def impl_PermFrom.l1 : Nat → Int → ByteArray → List Int → ByteArray → List Int → List ByteArray → Int → Int → Option (List Int × Bool)
  | 0, _, _, _, _, _, _, _, _ => none
  | k + 1, x0, x1, x6, x11, x13, x54, x55, x56 => if x56 < x55 then (if 0 ≤ x56 then (if x56 < (x54.length : Int) then ((strconv_Atoi.f (rdOf ByteArray.empty x54 x56)).bind fun bt227 => (if bt227.2.isNone = true then (if bt227.1 < 0 then (some (([] : List Int), false)) else (if bt227.1 ≥ x0 then (some (([] : List Int), false)) else (if x13.length < 17592186044416 then (impl_PermFrom.l1 k x0 x1 x6 x11 (x13 ++ [bt227.1]) x54 x55 (wrap64 (x56 + 1))) else (none)))) else (some (([] : List Int), false)))) else (none)) else (none)) else (impl_PermFrom.l2 k x0 x1 x6 x11 x13 x13 (x13.length : Int) 0)
def impl_PermFrom.l2 : Nat → Int → ByteArray → List Int → ByteArray → List Int → List Int → Int → Int → Option (List Int × Bool)
  | 0, _, _, _, _, _, _, _, _ => none
  | k + 1, x0, x1, x6, x11, x13, x81, x82, x83 => if x83 < x82 then (if 0 ≤ x83 then (if x83 < (x81.length : Int) then (if (x13.length : Int) = 0 then (none) else (if 0 ≤ (Int.tmod (wrap64 (x83 + 1)) (x13.length : Int)) then (if (Int.tmod (wrap64 (x83 + 1)) (x13.length : Int)) < (x13.length : Int) then (if 0 ≤ (rd x81 x83) then (if (rd x81 x83) < (x6.length : Int) then (impl_PermFrom.l2 k x0 x1 (x6.set ((rd x81 x83) : Int).toNat (rd x13 (Int.tmod (wrap64 (x83 + 1)) (x13.length : Int)))) x11 x13 x81 x82 (wrap64 (x83 + 1))) else (none)) else (none)) else (none)) else (none))) else (none)) else (none)) else (impl_PermFrom.l0 k x0 x1 x6 x11)
end
def impl_PermFrom.f (k : Nat) (a0 : Int) (a1 : ByteArray) : Option (List Int × Bool) := if a0 < 1 then (impl_PermFrom.j0 k a0 a1 true) else (impl_PermFrom.j0 k a0 a1 (decide (a0 > 12)))
set_option maxHeartbeats 8000000 in
set_option maxRecDepth 100000 in
theorem impl_PermFrom.calls (k : Nat) (a0 : Int) (a1 : ByteArray) (r1 : List Int) (r2 : Bool) (w : World) (h : impl_PermFrom.f k a0 a1 = some (r1, r2)) :
    Calls Tryz.prog 66 #[.int .i64 a0, .string a1] w fun e w' => ∃ v0_ : Value, e = .returned (.tuple #[v0_, .bool r2]) ∧ Kd.R (Kd.int .i64) 3 w' w.heap.size (fun _ => True) v0_ r1 ∧ Below w.heap.size w w' := by
 have hu56 := Tryz.underlying56
 have HB := A0_ (Below.refl w.heap.size w)
 have H : (if a0 < 1 then (impl_PermFrom.j0 k a0 a1 true) else (impl_PermFrom.j0 k a0 a1 (decide (a0 > 12)))) = some (r1, r2) := h
 clear h; have HC3 := A0_ H; clear H
 go_enter Tryz.func66, Tryz.ntmps66
 go_upto_region 1 with (fail)
 go_cut [25] (fun v25 wc => ∃ (kq : Nat) (x25_2 : Bool), v25 = .bool x25_2 ∧ Aside0 (impl_PermFrom.j0 kq a0 a1 x25_2 = some (r1, r2)) ∧ Aside0 (kq ≤ k) ∧ Aside0 (Below w.heap.size w wc))
 case first =>
  have H := HC3.out; clear HC3
  by_cases c4 : a0 < 1
  ·rw [if_pos c4] at H
   have c4b0 := dT c4; clear c4
   (first | rw [c4b0] | (simp only [i64_w, i32_w]; rw [c4b0]) | skip)
   have H' := A0_ H; clear H
   go_wp2
   go_meet
   case rel => exact ⟨_, (true), zt, H', zo, ⟨zB_ HB⟩⟩
  rw [if_neg c4] at H; have c4b0 := dF c4; clear c4
  (first | rw [c4b0] | (simp only [i64_w, i32_w]; rw [c4b0]) | skip)
  have H' := A0_ H; clear H
  go_wp2
  go_meet
  case rel => exact ⟨_, (decide (a0 > 12)), zt, H', zo, ⟨zB_ HB⟩⟩
 case rest =>
  clear HC3; (try clear p2); (try clear c4); (try clear c4b0); obtain ⟨kq, x25_2, rfl, HA, HJ2, HB⟩ := hcut
  cases kq with
  | zero => exact absurd HA.out (by simp [impl_PermFrom.j0])
  | succ kj2 =>
   have H := HA.out; clear HA; simp only [impl_PermFrom.j0] at H
   by_cases c5 : x25_2 = true
   ·subst c5
    have H1 : (some (([] : List Int), false)) = some (r1, r2) := by rw [if_pos rfl] at H; exact H
    clear H; have H := H1; clear H1; simp only [Option.some.injEq, Prod.mk.injEq] at H; obtain ⟨rfl, rfl⟩ := H
    go_wp2
    go_ret2
    exact ⟨_, by first | rfl | (simp [*] <;> rfl), by first | exact Kd.R_nil _ _ _ _ _ | exact Kd.N_nil _ _ _ _ _ | exact Kd.V_nil _ _ _ _ _ | exact Kd.Q_nil _ _ _ _ _ | exact Kd.S_nil _ _ _ _ _, zB_ HB⟩
   replace c5 := Bool.eq_false_iff.mpr c5; subst c5
   have H1 : ((impl_still.f kj2 a0).bind fun t211 => (impl_PermFrom.l0 kj2 a0 a1 t211 a1)) = some (r1, r2) := by rw [if_neg (show ¬ (false = true) by decide)] at H; exact H
   clear H; have H := H1; clear H1; obtain ⟨t211, A6, H⟩ := zbind H; have H' := A0_ H; clear H
   go_wp2_with (first | ((with_reducible refine gC (f := 83) rfl ?_); refine zJ (some 27) Tryz.func83 #[.int .i64 a0] ?_; (with_reducible refine (impl_still.calls kj2 a0 t211 _ A6.out).mono ?_); rintro e w7 ⟨v212, rfl, ho0, hb⟩; refine ⟨_, rfl, ?_⟩; have HO213 := A0_ (rL ho0 (bZ (zB_ HB))); replace HB := zB HB hb; (try clear hb); (try clear ho0)))
   go_loopg [7] kj2 (fun kq v7 w' => ∃ (x6_2 : List Int) (x7_2 : ByteArray), v7 = .string x7_2 ∧ Aside0 (impl_PermFrom.l0 kq a0 a1 x6_2 x7_2 = some (r1, r2)) ∧ Aside0 (kq ≤ kj2) ∧ Aside0 (Kd.R (Kd.int .i64) 3 w' w.heap.size (fun _ => True) v212 x6_2) ∧ Aside0 (Below w.heap.size w w'))
   case atStart => exact ⟨(t211), (a1), zt, H', ⟨Nat.le_refl _⟩, ⟨zR_ HO213⟩, ⟨zB_ HB⟩⟩
   case round =>
    clear H'; (try clear p2); (try clear c4); (try clear c4b0); (try clear c5); (try clear c6); (try clear p2); obtain ⟨x6_2, x7_2, rfl, HA, HK2, HO_6, HB⟩ := hrel
    cases gk with
    | zero => exact absurd HA.out (by simp [impl_PermFrom.l0])
    | succ k2 =>
     have H := HA.out; clear HA; simp only [impl_PermFrom.l0] at H; have HC8 := A0_ H; clear H
     go_upto_region 5 with (fail)
     go_cut [34] (fun v34 wc => ∃ (kq : Nat) (x34_7 : Bool), v34 = .bool x34_7 ∧ Aside0 (impl_PermFrom.j2 kq a0 a1 x6_2 x7_2 x34_7 = some (r1, r2)) ∧ Aside0 (kq ≤ k2) ∧ Aside0 (Kd.R (Kd.int .i64) 3 wc w.heap.size (fun _ => True) v212 x6_2) ∧ Aside0 (Below w.heap.size w wc))
     case first =>
      have H := HC8.out; clear HC8
      by_cases c9 : x7_2.toList = ([] : List UInt8)
      ·rw [if_pos c9] at H
       have c9b0 : (x7_2.toList == ([] : List UInt8)) = true := beq_iff_eq.mpr c9
       have c9b1 : (x7_2.toList != ([] : List UInt8)) = false := bne_eq_false_iff_eq.mpr c9
       clear c9
       (first | rw [c9b0] | (simp only [i64_w, i32_w]; rw [c9b0]) | skip)
       have H' := A0_ H; clear H
       go_wp2
       go_meet
       case rel => exact ⟨_, (false), zt, H', ⟨by have := HJ2.out; have := HK2.out; first | omega | exact Nat.le_refl _⟩, ⟨zR_ HO_6⟩, ⟨zB_ HB⟩⟩
      rw [if_neg c9] at H
      have c9b0 : (x7_2.toList == ([] : List UInt8)) = false := beq_eq_false_iff_ne.mpr c9
      have c9b1 : (x7_2.toList != ([] : List UInt8)) = true := bne_iff_ne.mpr c9
      (first | rw [c9b0] | (simp only [i64_w, i32_w]; rw [c9b0]) | skip)
      have H' := A0_ H; clear H
      go_wp2
      go_meet
      case rel => exact ⟨_, ((a1.toList != ([40, 41] : List UInt8))), zt, H', ⟨by have := HJ2.out; have := HK2.out; first | omega | exact Nat.le_refl _⟩, ⟨zR_ HO_6⟩, ⟨zB_ HB⟩⟩
     case rest =>
      clear HC8; (try clear p2); (try clear c4); (try clear c4b0); (try clear c5); (try clear c6); (try clear c8); (try clear c9); (try clear c9b0); (try clear c9b1); (try clear p2); obtain ⟨kq, x34_7, rfl, HA, HJ7, HO_6, HB⟩ := hcut
      cases kq with
      | zero => exact absurd HA.out (by simp [impl_PermFrom.j2])
      | succ kj7 =>
       have H := HA.out; clear HA; simp only [impl_PermFrom.j2] at H
       by_cases c10 : x34_7 = true
       ·subst c10
        have H1 : ((strings_CutPrefix.f x7_2 (⟨#[40]⟩ : ByteArray)).bind fun bt215 => ((strings_Cut.f bt215.1 (⟨#[41]⟩ : ByteArray)).bind fun bt217 => (if bt215.2 = true then (impl_PermFrom.j3 kj7 a0 a1 x6_2 bt217.1 bt217.2.1 (!bt217.2.2)) else (impl_PermFrom.j3 kj7 a0 a1 x6_2 bt217.1 bt217.2.1 true)))) = some (r1, r2) := by rw [if_pos rfl] at H; exact H
        clear H; have H := H1; clear H1; obtain ⟨⟨t215, t216⟩, A11, H⟩ := zbind H; dsimp only at H; obtain ⟨⟨t217, t218, t219⟩, A12, H⟩ := zbind H; dsimp only at H; have HC13 := A0_ H; clear H
        go_upto_region 8 with (first | ((with_reducible refine gC (f := 101) rfl ?_); refine zJ (some 37) Tryz.func101 #[.string x7_2, .string (⟨#[40]⟩ : ByteArray)] ?_; (with_reducible refine (strings_CutPrefix.calls x7_2 (⟨#[40]⟩ : ByteArray) t215 t216 _ A11.out).mono ?_); rintro e w' ⟨rfl, ⟨nd, rfl⟩⟩; refine ⟨_, rfl, ?_⟩) | ((with_reducible refine gC (f := 102) rfl ?_); refine zJ (some 42) Tryz.func102 #[.string t215, .string (⟨#[41]⟩ : ByteArray)] ?_; (with_reducible refine (strings_Cut.calls t215 (⟨#[41]⟩ : ByteArray) t217 t218 t219 _ A12.out).mono ?_); rintro e w' ⟨rfl, ⟨nd, rfl⟩⟩; refine ⟨_, rfl, ?_⟩))
        (try simp only [Act.put, List.setIfInBounds_toArray, List.set_cons_zero, List.set_cons_succ])
        go_cut [51] (fun v51 wc => ∃ (kq : Nat) (x51_12 : Bool), v51 = .bool x51_12 ∧ Aside0 (impl_PermFrom.j3 kq a0 a1 x6_2 t217 t218 x51_12 = some (r1, r2)) ∧ Aside0 (kq ≤ kj7) ∧ Aside0 (Kd.R (Kd.int .i64) 3 wc w.heap.size (fun _ => True) v212 x6_2) ∧ Aside0 (Below w.heap.size w wc))
        case first =>
         have H := HC13.out; clear HC13
         by_cases c14 : t216 = true
         ·subst c14
          have H1 : (impl_PermFrom.j3 kj7 a0 a1 x6_2 t217 t218 (!t219)) = some (r1, r2) := by rw [if_pos rfl] at H; exact H
          clear H; have H := H1; clear H1; have H' := A0_ H; clear H
          go_wp2
          go_meet
          case rel => exact ⟨_, (!t219), zt, H', ⟨by have := HJ2.out; have := HK2.out; have := HJ7.out; first | omega | exact Nat.le_refl _⟩, ⟨zR_ HO_6⟩, ⟨zB_ HB⟩⟩
         replace c14 := Bool.eq_false_iff.mpr c14; subst c14
         have H1 : (impl_PermFrom.j3 kj7 a0 a1 x6_2 t217 t218 true) = some (r1, r2) := by rw [if_neg (show ¬ (false = true) by decide)] at H; exact H
         clear H; have H := H1; clear H1; have H' := A0_ H; clear H
         go_wp2
         go_meet
         case rel => exact ⟨_, (true), zt, H', ⟨by have := HJ2.out; have := HK2.out; have := HJ7.out; first | omega | exact Nat.le_refl _⟩, ⟨zR_ HO_6⟩, ⟨zB_ HB⟩⟩
        case rest =>
         clear HC13; (try clear c1); (try clear p2); (try clear c4); (try clear c4b0); (try clear c5); (try clear c6); (try clear c8); (try clear c9); (try clear c9b0); (try clear c9b1); (try clear c10); (try clear c14); (try clear p2); obtain ⟨kq, x51_12, rfl, HA, HJ12, HO_6, HB⟩ := hcut
         cases kq with
         | zero => exact absurd HA.out (by simp [impl_PermFrom.j3])
         | succ kj12 =>
          have H := HA.out; clear HA; simp only [impl_PermFrom.j3] at H
          by_cases c15 : x51_12 = true
          ·subst c15
           have H1 : (some (([] : List Int), false)) = some (r1, r2) := by rw [if_pos rfl] at H; exact H
           clear H; have H := H1; clear H1; simp only [Option.some.injEq, Prod.mk.injEq] at H; obtain ⟨rfl, rfl⟩ := H
           go_wp2
           go_ret2
           exact ⟨_, by first | rfl | (simp [*] <;> rfl), by first | exact Kd.R_nil _ _ _ _ _ | exact Kd.N_nil _ _ _ _ _ | exact Kd.V_nil _ _ _ _ _ | exact Kd.Q_nil _ _ _ _ _ | exact Kd.S_nil _ _ _ _ _, zB_ HB⟩
          replace c15 := Bool.eq_false_iff.mpr c15; subst c15
          have H1 : ((strings_Split.f t217 (⟨#[44]⟩ : ByteArray)).bind fun t223 => (impl_PermFrom.l1 kj12 a0 a1 x6_2 t218 (([] : List Int)) t223 (t223.length : Int) 0)) = some (r1, r2) := by rw [if_neg (show ¬ (false = true) by decide)] at H; exact H
          clear H; have H := H1; clear H1
          obtain ⟨y220, hy220⟩ : ∃ y_ : List Int, y_ = (([] : List Int)) := ⟨_, rfl⟩
          replace H : ((strings_Split.f t217 (⟨#[44]⟩ : ByteArray)).bind fun t223 => (impl_PermFrom.l1 kj12 a0 a1 x6_2 t218 y220 t223 (t223.length : Int) 0)) = some (r1, r2) := zH hy220 H
          have Ny220 := A0_ hy220; clear hy220; obtain ⟨t223, A16, H⟩ := zbind H; have H' := A0_ H; clear H
          go_wp2_with (first | ((with_reducible refine gD (N := 52) rfl ?_); refine Kd.R_lit (Kd.int .i64) _ 3 ?hg (N := 52) ?hd (xs := ([] : List Int)) (inner := []) (ok := fun _ => True) (okp := fun _ => True) ?hr ?hp (fun _ hk => hk) trivial (Below.refl _ _) (Nat.le_refl _) (by simp) ?_; (case hd => rfl); (case hg => rfl); (case hr => first | (go_simp; done) | (go_simp; rfl)); (case hp => exact (Reps.none _ _)); intro v221 w17 ho18 hb hg_ hnew_; clear hg_ hnew_; (first | rw [← Ny220.out] at ho18 | (simp only [Int.reduceToNat] at ho18; rw [← Ny220.out] at ho18)); have HO222 := A0_ (rL (Kd.R_new' ho18 (rX (zR_ HO_6))) (bZ (zB_ HB))); replace HO_6 := A0_ (Kd.R_elder' (zR_ HO_6) (Kd.R_base ho18) hb); replace HB := zB HB hb; clear hb ho18) | ((with_reducible refine gC (f := 32) rfl ?_); refine zJ (some 54) Tryz.func32 #[.string t217, .string (⟨#[44]⟩ : ByteArray)] ?_; (with_reducible refine (strings_Split.calls t217 (⟨#[44]⟩ : ByteArray) t223 _ A16.out).mono ?_); rintro e w19 ⟨v224, rfl, ho0, hb⟩; refine ⟨_, rfl, ?_⟩; replace HO_6 := zR HO_6 hb; replace HO222 := zR HO222 hb; have HO225 := A0_ (rL ho0 (bZ (zB_ HB))); replace HB := zB HB hb; (try clear hb); (try clear ho0); obtain ⟨Ao20, co20, eo20⟩ := rS HO225.out; subst eo20))
          go_loopg [13, 56] kj12 (fun kq v13 v56 w' => ∃ (x13_5 : List Int) (x56_5 : Int), v56 = .int .i64 x56_5 ∧ Aside0 (impl_PermFrom.l1 kq a0 a1 x6_2 t218 x13_5 t223 (t223.length : Int) x56_5 = some (r1, r2)) ∧ Aside0 (kq ≤ kj12) ∧ Aside0 (Kd.R (Kd.int .i64) 3 w' w.heap.size (fun k_ => some k_ ≠ (v13 : Value).ownBlock) v212 x6_2) ∧ Aside0 (Kd.R (Kd.int .i64) 3 w' w.heap.size (fun k_ => some k_ ≠ (v212 : Value).ownBlock) v13 x13_5) ∧ Aside0 (Kd.R Kd.string 9 w' w.heap.size (fun _ => True) (.slice Ao20 t223.length co20) t223) ∧ Aside0 (Below w.heap.size w w'))
          case atStart => exact ⟨(y220), (0), zt, H', ⟨Nat.le_refl _⟩, ⟨zmR HO_6 (fun _ hk => hk.2)⟩, ⟨zmR HO222 (fun _ hk => hk.2)⟩, ⟨zR_ HO225⟩, ⟨zB_ HB⟩⟩
          case round =>
           clear H'; (try clear c1); (try clear p2); (try clear c3); (try clear c4); (try clear c4b0); (try clear c5); (try clear c6); (try clear c8); (try clear c9); (try clear c9b0); (try clear c9b1); (try clear c10); (try clear c14); (try clear c15); (try clear p2); obtain ⟨x13_5, x56_5, rfl, HA, HK5, HO_6, HO_13, HO_54, HB⟩ := hrel
           cases gk with
           | zero => exact absurd HA.out (by simp [impl_PermFrom.l1])
           | succ k5 =>
            have H := HA.out; clear HA; simp only [impl_PermFrom.l1] at H
            by_cases c21 : x56_5 < (t223.length : Int)
            ·rw [if_pos c21] at H
             have c21b0 := dT c21; clear c21
             by_cases c22 : 0 ≤ x56_5
             ·rw [if_pos c22] at H
              have c22b0 := dT c22; clear c22
              by_cases c23 : x56_5 < (t223.length : Int)
              ·rw [if_pos c23] at H
               have c23b0 := dT c23; clear c23; obtain ⟨⟨t227, t228⟩, A24, H⟩ := zbind H; dsimp only at H
               rcases t228 with _ | q229
               ·have H1 : (if t227 < 0 then (some (([] : List Int), false)) else (if t227 ≥ a0 then (some (([] : List Int), false)) else (if x13_5.length < 17592186044416 then (impl_PermFrom.l1 k5 a0 a1 x6_2 t218 (x13_5 ++ [t227]) t223 (t223.length : Int) (wrap64 (x56_5 + 1))) else (none)))) = some (r1, r2) := by rw [if_pos (show (none : Option Int).isNone = true by rfl)] at H; exact H
                clear H; have H := H1; clear H1
                try simp only [errW_none, errW_some]
                by_cases c25 : t227 < 0
                ·rw [if_pos c25] at H
                 have c25b0 := dT c25; clear c25; simp only [Option.some.injEq, Prod.mk.injEq] at H; obtain ⟨rfl, rfl⟩ := H
                 have p226 : 0 ≤ (x56_5 : Int) := zd
                 have q226 : x56_5 < (t223.length : Int) := zd
                 obtain ⟨ad226, e226, hx226_0⟩ := Kd.at_string (rR HO_54.out).2.2 x56_5 p226 q226
                 cases e226
                 replace p226 := eq_true p226; replace q226 := eq_true q226
                 go_wp2_with (first | ((with_reducible refine gC (f := 103) rfl ?_); refine zJ (some 62) Tryz.func103 #[.string (rdOf ByteArray.empty t223 x56_5)] ?_; (with_reducible refine (strconv_Atoi.calls (rdOf ByteArray.empty t223 x56_5) t227 none _ A24.out).mono ?_); rintro e w26 ⟨rfl, hb⟩; refine ⟨_, rfl, ?_⟩; replace HO_6 := zR HO_6 hb; replace HO_13 := zR HO_13 hb; replace HO_54 := zR HO_54 hb; replace HB := zB HB hb; (try clear hb); (try simp only [errW_none, errW_some])))
                 go_ret2
                 exact ⟨_, by first | rfl | (simp [*] <;> rfl), by first | exact Kd.R_nil _ _ _ _ _ | exact Kd.N_nil _ _ _ _ _ | exact Kd.V_nil _ _ _ _ _ | exact Kd.Q_nil _ _ _ _ _ | exact Kd.S_nil _ _ _ _ _, zB_ HB⟩
                rw [if_neg c25] at H; have c25b0 := dF c25; clear c25
                by_cases c27 : t227 ≥ a0
                ·rw [if_pos c27] at H
                 have c27b0 : decide (a0 ≤ t227) = true := dT c27
                 clear c27; simp only [Option.some.injEq, Prod.mk.injEq] at H; obtain ⟨rfl, rfl⟩ := H
                 have p226 : 0 ≤ (x56_5 : Int) := zd
                 have q226 : x56_5 < (t223.length : Int) := zd
                 obtain ⟨ad226, e226, hx226_0⟩ := Kd.at_string (rR HO_54.out).2.2 x56_5 p226 q226
                 cases e226
                 replace p226 := eq_true p226; replace q226 := eq_true q226
                 go_wp2_with (first | ((with_reducible refine gC (f := 103) rfl ?_); refine zJ (some 62) Tryz.func103 #[.string (rdOf ByteArray.empty t223 x56_5)] ?_; (with_reducible refine (strconv_Atoi.calls (rdOf ByteArray.empty t223 x56_5) t227 none _ A24.out).mono ?_); rintro e w28 ⟨rfl, hb⟩; refine ⟨_, rfl, ?_⟩; replace HO_6 := zR HO_6 hb; replace HO_13 := zR HO_13 hb; replace HO_54 := zR HO_54 hb; replace HB := zB HB hb; (try clear hb); (try simp only [errW_none, errW_some])))
                 go_ret2
                 exact ⟨_, by first | rfl | (simp [*] <;> rfl), by first | exact Kd.R_nil _ _ _ _ _ | exact Kd.N_nil _ _ _ _ _ | exact Kd.V_nil _ _ _ _ _ | exact Kd.Q_nil _ _ _ _ _ | exact Kd.S_nil _ _ _ _ _, zB_ HB⟩
                rw [if_neg c27] at H
                have c27b0 : decide (a0 ≤ t227) = false := dF c27
                clear c27
                by_cases c29 : x13_5.length < 17592186044416
                ·rw [if_pos c29] at H
                 have LMc29 := A0_ c29; clear c29
                 obtain ⟨y230, hy230⟩ : ∃ y_ : List Int, y_ = (x13_5 ++ [t227]) := ⟨_, rfl⟩
                 replace H : (impl_PermFrom.l1 k5 a0 a1 x6_2 t218 y230 t223 (t223.length : Int) (wrap64 (x56_5 + 1))) = some (r1, r2) := zH hy230 H
                 have Ny230 := A0_ hy230; clear hy230; have H' := A0_ H; clear H
                 have p226 : 0 ≤ (x56_5 : Int) := zd
                 have q226 : x56_5 < (t223.length : Int) := zd
                 obtain ⟨ad226, e226, hx226_0⟩ := Kd.at_string (rR HO_54.out).2.2 x56_5 p226 q226
                 cases e226
                 replace p226 := eq_true p226; replace q226 := eq_true q226
                 go_wp2_with (first | ((with_reducible refine gC (f := 103) rfl ?_); refine zJ (some 62) Tryz.func103 #[.string (rdOf ByteArray.empty t223 x56_5)] ?_; (with_reducible refine (strconv_Atoi.calls (rdOf ByteArray.empty t223 x56_5) t227 none _ A24.out).mono ?_); rintro e w30 ⟨rfl, hb⟩; refine ⟨_, rfl, ?_⟩; replace HO_6 := zR HO_6 hb; replace HO_13 := zR HO_13 hb; replace HO_54 := zR HO_54 hb; replace HB := zB HB hb; (try clear hb); (try simp only [errW_none, errW_some])) | ((with_reducible refine gB (b := .append) (xs := #[.tmp 76, .tmp 78]) rfl ?_); at_builtin; refine Kd.R_append (Kd.int .i64) (w0 := w) w.heap.size rfl (.tmp 76) (.tmp 78) 23 3 (.int .i64 0) 8 rfl Tryz.underlying23 info3 rfl (by decide) (by omega) u13 x13_5 t227 [.int .i64 t227] (fun k_ => some k_ ≠ (v212 : Value).ownBlock) (fun _ => False) rfl rfl ?aP (fun _ hk => hk.elim) ?aF ?aO ?aB ?aS ?aL ?_; (case aP => exact rfl); (case aB => exact (zB_ HB)); (case aF => exact (fun k_ hk => Kd.fresh' (rX (zR_ HO_6)) k_ hk)); (case aO => exact (zR_ HO_13)); (case aS => exact (bZ (zB_ HB))); (case aL => have := LMc29.out; omega); intro v231 w31 ho hb hg hat; rw [← Ny230.out] at ho; replace HO_6 := A0_ (Kd.R_after (ok := (fun _ => True)) (zmR HO_6 (fun _ hk => ⟨trivial, hk⟩)) hg hat); replace HO_54 := A0_ (Kd.R_over' (zR_ HO_54) (Kd.R_typed (zR_ HO_13)) (by decide) hg); replace HB := A0_ (hb); have HO232 := A0_ (ho); clear HO_13 ho hb hg hat))
                 go_roundg k5
                 case measure => have := HJ2.out; have := HK2.out; have := HJ7.out; have := HJ12.out; have := HK5.out; omega
                 case rel => exact ⟨(y230), (wrap64 (x56_5 + 1)), zt, H', ⟨by have := HJ2.out; have := HK2.out; have := HJ7.out; have := HJ12.out; have := HK5.out; omega⟩, ⟨zmR HO_6 (fun _ hk => hk.2)⟩, ⟨zR_ HO232⟩, ⟨zR_ HO_54⟩, ⟨zB_ HB⟩⟩
                rw [if_neg c29] at H
                exact absurd H (by simp)
               have H1 : (some (([] : List Int), false)) = some (r1, r2) := by rw [if_neg (show ¬ (some q229).isNone = true by simp)] at H; exact H
               clear H; have H := H1; clear H1
               try simp only [errW_none, errW_some]
               simp only [Option.some.injEq, Prod.mk.injEq] at H; obtain ⟨rfl, rfl⟩ := H
               have p226 : 0 ≤ (x56_5 : Int) := zd
               have q226 : x56_5 < (t223.length : Int) := zd
               obtain ⟨ad226, e226, hx226_0⟩ := Kd.at_string (rR HO_54.out).2.2 x56_5 p226 q226
               cases e226
               replace p226 := eq_true p226; replace q226 := eq_true q226
               go_wp2_with (first | ((with_reducible refine gC (f := 103) rfl ?_); refine zJ (some 62) Tryz.func103 #[.string (rdOf ByteArray.empty t223 x56_5)] ?_; (with_reducible refine (strconv_Atoi.calls (rdOf ByteArray.empty t223 x56_5) t227 (some q229) _ A24.out).mono ?_); rintro e w32 ⟨rfl, hb⟩; refine ⟨_, rfl, ?_⟩; replace HO_6 := zR HO_6 hb; replace HO_13 := zR HO_13 hb; replace HO_54 := zR HO_54 hb; replace HB := zB HB hb; (try clear hb); (try simp only [errW_none, errW_some])))
               go_ret2
               exact ⟨_, by first | rfl | (simp [*] <;> rfl), by first | exact Kd.R_nil _ _ _ _ _ | exact Kd.N_nil _ _ _ _ _ | exact Kd.V_nil _ _ _ _ _ | exact Kd.Q_nil _ _ _ _ _ | exact Kd.S_nil _ _ _ _ _, zB_ HB⟩
              rw [if_neg c23] at H
              exact absurd H (by simp)
             rw [if_neg c22] at H
             exact absurd H (by simp)
            rw [if_neg c21] at H; have c21b0 := dF c21; clear c21; have H' := A0_ H; clear H; obtain ⟨Ao33, co33, eo33⟩ := rS HO_13.out; subst eo33
            go_wp2
            go_loopg [83] k5 (fun kq v83 w' => ∃ (x6_6 : List Int) (x83_6 : Int), v83 = .int .i64 x83_6 ∧ Aside0 (impl_PermFrom.l2 kq a0 a1 x6_6 t218 x13_5 x13_5 (x13_5.length : Int) x83_6 = some (r1, r2)) ∧ Aside0 (kq ≤ k5) ∧ Aside0 (Kd.R (Kd.int .i64) 3 w' w.heap.size (fun k_ => some k_ ≠ ((.slice Ao33 x13_5.length co33) : Value).ownBlock ∧ some k_ ≠ ((.slice Ao33 x13_5.length co33) : Value).ownBlock) v212 x6_6) ∧ Aside0 (Kd.R (Kd.int .i64) 3 w' w.heap.size (fun k_ => some k_ ≠ (v212 : Value).ownBlock) (.slice Ao33 x13_5.length co33) x13_5) ∧ Aside0 (Kd.R (Kd.int .i64) 3 w' w.heap.size (fun k_ => some k_ ≠ (v212 : Value).ownBlock) (.slice Ao33 x13_5.length co33) x13_5) ∧ Aside0 (Below w.heap.size w w'))
            case atStart => exact ⟨(x6_2), (0), zt, H', ⟨Nat.le_refl _⟩, ⟨zmR HO_6 (fun _ hk => ⟨hk, hk⟩)⟩, ⟨zR_ HO_13⟩, ⟨zR_ HO_13⟩, ⟨zB_ HB⟩⟩
            case round =>
             clear H'; (try clear c1); (try clear c2); (try clear p2); (try clear q2); (try clear hx2); (try clear c3); (try clear c4); (try clear c4b0); (try clear c5); (try clear c6); (try clear p6); (try clear c8); (try clear c9); (try clear c9b0); (try clear c9b1); (try clear c10); (try clear c14); (try clear c15); (try clear c21); (try clear c21b0); (try clear c22); (try clear c22b0); (try clear p22); (try clear q22); (try clear hx22); (try clear c23); (try clear c23b0); (try clear c25); (try clear c25b0); (try clear c27); (try clear c27b0); (try clear c29); (try clear c32); (try clear hx226_0); (try clear p2); (try clear p226); (try clear q226); (try clear q229); obtain ⟨x6_6, x83_6, rfl, HA, HK6, HO_6, HO_13, HO_81, HB⟩ := hrel
             cases gk with
             | zero => exact absurd HA.out (by simp [impl_PermFrom.l2])
             | succ k6 =>
              have H := HA.out; clear HA; simp only [impl_PermFrom.l2] at H
              by_cases c34 : x83_6 < (x13_5.length : Int)
              ·rw [if_pos c34] at H
               have c34b0 := dT c34; clear c34
               by_cases c35 : 0 ≤ x83_6
               ·rw [if_pos c35] at H
                have c35b0 := dT c35; clear c35
                by_cases c36 : x83_6 < (x13_5.length : Int)
                ·rw [if_pos c36] at H
                 have c36b0 := dT c36; clear c36
                 by_cases c37 : (x13_5.length : Int) = 0
                 ·rw [if_pos c37] at H
                  exact absurd H (by simp)
                 rw [if_neg c37] at H
                 have c37b0 : ((x13_5.length : Int) == 0) = false := beq_eq_false_iff_ne.mpr c37
                 have c37b1 : ((x13_5.length : Int) != 0) = true := bne_iff_ne.mpr c37
                 have c37b2 : ¬ (x13_5 = []) := fun h_ => c37 (by rw [h_]; rfl)
                 obtain ⟨ji38, hji38⟩ : ∃ j_ : Int, (Int.tmod (wrap64 (x83_6 + 1)) (x13_5.length : Int)) = j_ := ⟨_, rfl⟩
                 replace H : (if 0 ≤ (ji38) then (if (ji38) < (x13_5.length : Int) then (if 0 ≤ (rd x13_5 x83_6) then (if (rd x13_5 x83_6) < (x6_6.length : Int) then (impl_PermFrom.l2 k6 a0 a1 (x6_6.set ((rd x13_5 x83_6) : Int).toNat (rd x13_5 (ji38))) t218 x13_5 x13_5 (x13_5.length : Int) (wrap64 (x83_6 + 1))) else (none)) else (none)) else (none)) else (none)) = some (r1, r2) := by first | (rw [hji38] at H; exact H) | (simp only [hji38] at H ⊢; exact H)
                 by_cases c39 : 0 ≤ (ji38)
                 ·rw [if_pos c39] at H
                  have c39b0 := dT c39; clear c39
                  by_cases c40 : (ji38) < (x13_5.length : Int)
                  ·rw [if_pos c40] at H
                   have c40b0 := dT c40; clear c40
                   by_cases c41 : 0 ≤ (rd x13_5 x83_6)
                   ·rw [if_pos c41] at H
                    have c41b0 := dT c41; clear c41
                    by_cases c42 : (rd x13_5 x83_6) < (x6_6.length : Int)
                    ·rw [if_pos c42] at H
                     have c42b0 := dT c42; clear c42
                     obtain ⟨y235, hy235⟩ : ∃ y_ : List Int, y_ = (x6_6.set ((rd x13_5 x83_6) : Int).toNat (rd x13_5 (ji38))) := ⟨_, rfl⟩
                     replace H : (impl_PermFrom.l2 k6 a0 a1 y235 t218 x13_5 x13_5 (x13_5.length : Int) (wrap64 (x83_6 + 1))) = some (r1, r2) := zH hy235 H
                     have Ny235 := A0_ hy235; clear hy235; have H' := A0_ H; clear H
                     have p233 : 0 ≤ (x83_6 : Int) := zd
                     have q233 : x83_6 < (x13_5.length : Int) := zd
                     obtain ⟨ad233, e233, hx233_0⟩ := tI (rR HO_81.out).2.2 x83_6 p233 q233
                     cases e233
                     replace p233 := eq_true p233; replace q233 := eq_true q233
                     have p234 : 0 ≤ ((ji38) : Int) := zd
                     have q234 : (ji38) < (x13_5.length : Int) := zd
                     obtain ⟨ad234, e234, hx234_0⟩ := tI (rR HO_13.out).2.2 (ji38) p234 q234
                     obtain rfl : ad233 = ad234 := (by injection e234)
                     replace p234 := eq_true p234; replace q234 := eq_true q234
                     have p43 : 0 ≤ ((rd x13_5 x83_6) : Int) := zd
                     have q43 : ((rd x13_5 x83_6) : Int) < ((x6_6.length : Int) : Int) := zd
                     obtain ⟨go43, co43, eo43, gb43, gl43, cl43, HG43⟩ := Kd.R_form HO_6.out (by omega)
                     (first | cases eo43 | (injection eo43 with ea_ en_ ec_; (first | subst ea_ | (injection ea_ with ea_; subst ea_)); subst ec_; clear en_))
                     have GB43 := A0_ gb43; have GG43 := A0_ HG43; clear gb43 gl43 HG43
                     obtain ⟨hx43_0, hf43_0⟩ := Kd.R_celln 0 HO_6.out ((rd x13_5 x83_6) : Int) p43 q43
                     replace p43 := eq_true p43; replace q43 := eq_true q43
                     have HP44 := Kd.R_putg HO_6.out ((rd x13_5 x83_6) : Int) (rd x13_5 (ji38))
                     go_wp2_with (first | ((with_reducible refine gS (t := 3) (p := 98) rfl ?_); refine store_event (t := 3) (p := 98) (v := ?vo_w45) (w1 := (wr.setCell ⟨go43, ((rd x13_5 x83_6) : Int).toNat, none⟩ (.int .i64 (rd x13_5 (ji38))))) ?hg ?ho ?hn ?hr ?_; (case ho => rfl); (case hg => rfl); (case hn => rfl); (case hr => first | (go_simp; done) | (go_simp; rfl)); intro w45 hw; have hg : wr.grownBy w45 (some go43) := (by rw [hw]; exact HP44.2); have hp_ : Kd.R (Kd.int .i64) 3 w45 w.heap.size (fun k_ => some k_ ≠ (.slice (some ad233) x13_5.length co33 : Value).ownBlock ∧ some k_ ≠ (.slice (some ad233) x13_5.length co33 : Value).ownBlock) (.slice (some ⟨go43, 0, none⟩) x6_6.length co43) y235 := (by rw [hw, Ny235.out]; exact HP44.1); clear HP44; replace HO_6 := A0_ (hp_); replace HO_13 := A0_ (Kd.R_after (v := (.slice (some ⟨go43, 0, none⟩) x6_6.length co43)) (v1 := (.slice (some ⟨go43, 0, none⟩) x6_6.length co43)) (ok := (fun _ => True)) (zmR HO_13 (fun _ hk => ⟨trivial, hk⟩)) hg (.inl rfl)); replace HO_81 := A0_ (Kd.R_after (v := (.slice (some ⟨go43, 0, none⟩) x6_6.length co43)) (v1 := (.slice (some ⟨go43, 0, none⟩) x6_6.length co43)) (ok := (fun _ => True)) (zmR HO_81 (fun _ hk => ⟨trivial, hk⟩)) hg (.inl rfl)); replace HB := A0_ ((by rw [hw]; exact bS (HB.out) GB43.out : Below w.heap.size w w45)); clear hg hw hp_))
                     go_roundg k6
                     case measure => have := HJ2.out; have := HK2.out; have := HJ7.out; have := HJ12.out; have := HK5.out; have := HK6.out; omega
                     case rel => exact ⟨(y235), (wrap64 (x83_6 + 1)), zt, H', ⟨by have := HJ2.out; have := HK2.out; have := HJ7.out; have := HJ12.out; have := HK5.out; have := HK6.out; omega⟩, ⟨zR_ HO_6⟩, ⟨zmR HO_13 (fun _ hk => hk.2)⟩, ⟨zmR HO_81 (fun _ hk => hk.2)⟩, ⟨zB_ HB⟩⟩
                    rw [if_neg c42] at H
                    exact absurd H (by simp)
                   rw [if_neg c41] at H
                   exact absurd H (by simp)
                  rw [if_neg c40] at H
                  exact absurd H (by simp)
                 rw [if_neg c39] at H
                 exact absurd H (by simp)
                rw [if_neg c36] at H
                exact absurd H (by simp)
               rw [if_neg c35] at H
               exact absurd H (by simp)
              rw [if_neg c34] at H; have c34b0 := dF c34; clear c34; have H' := A0_ H; clear H
              go_wp2
              go_roundg k6
              case measure => have := HJ2.out; have := HK2.out; have := HJ7.out; have := HJ12.out; have := HK5.out; have := HK6.out; omega
              case rel => exact ⟨(x6_6), (t218), zt, H', ⟨by have := HJ2.out; have := HK2.out; have := HJ7.out; have := HJ12.out; have := HK5.out; have := HK6.out; omega⟩, ⟨zmR HO_6 (fun _ hk => trivial)⟩, ⟨zB_ HB⟩⟩
       replace c10 := Bool.eq_false_iff.mpr c10; subst c10
       have H1 : ((impl_PermText.f kj7 x6_2).bind fun t214 => (if t214.toList = a1.toList then (some (x6_2, true)) else (some (([] : List Int), false)))) = some (r1, r2) := by rw [if_neg (show ¬ (false = true) by decide)] at H; exact H
       clear H; have H := H1; clear H1; obtain ⟨t214, A46, H⟩ := zbind H
       by_cases c47 : t214.toList = a1.toList
       ·rw [if_pos c47] at H
        have c47b0 : (t214.toList == a1.toList) = true := beq_iff_eq.mpr c47
        have c47b1 : (t214.toList != a1.toList) = false := bne_eq_false_iff_eq.mpr c47
        clear c47; simp only [Option.some.injEq, Prod.mk.injEq] at H; obtain ⟨rfl, rfl⟩ := H; obtain ⟨Ao48, co48, eo48⟩ := rS HO_6.out; subst eo48
        go_wp2_with (first | ((with_reducible refine gC (f := 37) rfl ?_); refine zJ (some 102) Tryz.func37 #[.slice Ao48 x6_2.length co48] ?_; (with_reducible refine (impl_PermText.calls kj7 _ _ x6_2 t214 _ ?side1 ?side2 A46.out).mono ?_); (case side1 => exact zD HO_6); (case side2 => exact (rR HO_6.out).2.1); rintro e w49 ⟨rfl, hb⟩; refine ⟨_, rfl, ?_⟩; replace HO_6 := zR HO_6 hb; replace HB := zB HB hb; (try clear hb)))
        go_ret2
        exact ⟨_, by first | rfl | (simp [*] <;> rfl), zR_ HO_6, zB_ HB⟩
       rw [if_neg c47] at H
       have c47b0 : (t214.toList == a1.toList) = false := beq_eq_false_iff_ne.mpr c47
       have c47b1 : (t214.toList != a1.toList) = true := bne_iff_ne.mpr c47
       simp only [Option.some.injEq, Prod.mk.injEq] at H; obtain ⟨rfl, rfl⟩ := H; obtain ⟨Ao50, co50, eo50⟩ := rS HO_6.out; subst eo50
       go_wp2_with (first | ((with_reducible refine gC (f := 37) rfl ?_); refine zJ (some 102) Tryz.func37 #[.slice Ao50 x6_2.length co50] ?_; (with_reducible refine (impl_PermText.calls kj7 _ _ x6_2 t214 _ ?side1 ?side2 A46.out).mono ?_); (case side1 => exact zD HO_6); (case side2 => exact (rR HO_6.out).2.1); rintro e w51 ⟨rfl, hb⟩; refine ⟨_, rfl, ?_⟩; replace HO_6 := zR HO_6 hb; replace HB := zB HB hb; (try clear hb)))
       go_ret2
       exact ⟨_, by first | rfl | (simp [*] <;> rfl), by first | exact Kd.R_nil _ _ _ _ _ | exact Kd.N_nil _ _ _ _ _ | exact Kd.V_nil _ _ _ _ _ | exact Kd.Q_nil _ _ _ _ _ | exact Kd.S_nil _ _ _ _ _, zB_ HB⟩

/-! ### impl_Execute: function 10 -/
namespace impl_Execute
open Go.Proofs.YtjebcgbmlbemcaaGreatDoor Go.WideMaps Go.Maps
/-- What impl.told writes. -/
def toldF (v : Int) : Option ByteArray := if v < 0 then some ⟨#[110, 111]⟩ else if v ≤ 9223372036854775807 then some ⟨(Lib.itoa v).toArray⟩ else none
theorem told (v : Int) (s : ByteArray) (w : World) (ht : XE.Tab w) (h : toldF v = some s) : Calls Tryz.prog 75 #[.int .i64 v] w fun e w' => e = .returned (.string s) ∧ Below w.heap.size w w' := by
  unfold toldF at h
  split at h
  · rename_i h0
    obtain rfl := sI h
    have hd : decide (v < 0) = true := dT h0
    go_enter Tryz.func75, Tryz.ntmps75
    go_wp2
    go_ret
    exact ⟨rfl, Below.refl _ _⟩
  rename_i h0
  split at h
  · rename_i h1
    obtain rfl := sI h
    have hd : decide (v < 0) = false := dF h0
    go_enter Tryz.func75, Tryz.ntmps75
    go_wp2_with (go_at_call 35; (with_reducible refine (XS.itoa_all v (by omega) h1 _ ht).mono ?_); rintro e w3 ⟨rfl, k3, os3, rfl⟩)
    go_ret
    exact ⟨rfl, XE.itoa_below _ _ _⟩
  cases h
theorem many_value : XC.many.atKey (.string [118, 97, 108, 117, 101]) (.lit (.int .i64 0)) = .lit (.int .i64 4) := by kernel_rfl
set_option maxHeartbeats 2000000 in
set_option maxRecDepth 100000 in
theorem cmd_value (k : Nat) (T U : List Int) (B b bw : Nat) (d : ByteArray) (s1 : ByteArray) (s2 : ByteArray) (w : World) (v : Int) (s : ByteArray)
  (hm : XE.MapAt w B b T U) (hb : w.heap[bw]? = some (.cells ([⟨#[118, 97, 108, 117, 101]⟩, d, s1, s2].map Value.string).toArray 9 (0, 0))) (hBb : B ≤ b) (hBw : B ≤ w.heap.size) (m0 : Int) (n0 : impl_numberOf.f k ⟨#[118, 97, 108, 117, 101]⟩ = some m0) (m1 : Int) (n1 : impl_numberOf.f k d = some m1) (m2 : Int) (n2 : impl_numberOf.f k s1 = some m2) (m3 : Int) (n3 : impl_numberOf.f k s2 = some m3) (hd : impl_RibbonValue.f k T U m1 m2 m3 = some v) (hg : toldF v = some s) (ht : XE.Tab w) :
  Calls Tryz.prog 34 #[.pointer (some ⟨b, 0, none⟩), .slice (some ⟨bw, 0, none⟩) 4 4] w fun e w' => e = .returned (.string s) ∧ Below w.heap.size w w' := by
  have b0 : w.cell? ⟨bw, 0, none⟩ = some (.string ⟨#[118, 97, 108, 117, 101]⟩) := (Lib.cell_of_heap hb 0).trans rfl
  have b1 : w.cell? ⟨bw, 1, none⟩ = some (.string d) := (Lib.cell_of_heap hb 1).trans rfl
  have b2 : w.cell? ⟨bw, 2, none⟩ = some (.string s1) := (Lib.cell_of_heap hb 2).trans rfl
  have b3 : w.cell? ⟨bw, 3, none⟩ = some (.string s2) := (Lib.cell_of_heap hb 3).trans rfl
  have hmm := @run_makeMap Tryz.prog
  obtain ⟨w1, w2, w3, w4, w5, w6, w7, w8, w9, w10, w11, w12, w13, w14, w15, r1, r2, r3, r4, r5, r6, r7, r8, r9, r10, r11, r12, r13, r14, r15, o15, g15⟩ := XC.laid w
  obtain ⟨n, hrun, hat, _⟩ := o15.lookup_int XC.key80 XC.und80 XC.und3 (XC.zero3 _) (keyOf_string_mk XC.und9 (s := ⟨#[118, 97, 108, 117, 101]⟩) (by decide))
  have hn : n = 4 := by
    have h := many_value.symm.trans hat
    simp only [DataW.lit.injEq, Lit.int.injEq] at h
    exact h.2.symm
  subst hn
  have c0 := g15.cell b0 (by simp)
  have c1 := g15.cell b1 (by simp)
  have c2 := g15.cell b2 (by simp)
  have c3 := g15.cell b3 (by simp)
  clear hat o15
  have mb := XE.map_keep (w' := w15) hm (fun q c e hq _ => g15.block q (XE.lt_of_heap hq) (by simp))
  have hz15 := g15.size
  have MB := Lib.hid mb; clear mb
  have HD := Lib.hid hd; clear hd
  have HG := Lib.hid hg; clear hg
  have HT := Lib.hid ht; clear ht
  have HM := Lib.hid hm; clear hm
  have HB := Lib.hid hb; clear hb
  have N0 := Lib.hid n0; clear n0
  have N1 := Lib.hid n1; clear n1
  have N2 := Lib.hid n2; clear n2
  have N3 := Lib.hid n3; clear n3
  go_enter Tryz.func34, Tryz.ntmps34
  go_wp2
  have blt : bw < w15.heap.size := wL _ _ c0
  go_loopw [31] (fun i wr => ∃ (q : Nat) (a0 a1 a2 a3 : Int), q ≤ 4 ∧ i = .int .i64 q ∧ wr.heap[w15.heap.size]? = some (.cells #[.int .i64 a0, .int .i64 a1, .int .i64 a2, .int .i64 a3] 83 (0, 0)) ∧ Below w15.heap.size w15 wr ∧ w15.heap.size < wr.heap.size ∧ Hid ((0 < q → a0 = m0) ∧ (1 < q → a1 = m1) ∧ (2 < q → a2 = m2) ∧ (3 < q → a3 = m3)))
    (fun i _ => 4 - (RowKit.intOf i).toNat)
  case atStart => exact ⟨0, 0, 0, 0, 0, by omega, rfl, heap_alloc_new _ _, (Below.refl _ _).alloc (Nat.le_refl _) _, by simp, show (0 < 0 → (0 : Int) = m0) ∧ (1 < 0 → (0 : Int) = m1) ∧ (2 < 0 → (0 : Int) = m2) ∧ (3 < 0 → (0 : Int) = m3) from ⟨fun h => absurd h (by omega), fun h => absurd h (by omega), fun h => absurd h (by omega), fun h => absurd h (by omega)⟩⟩
  case round =>
    obtain ⟨q, a0, a1, a2, a3, hq, rfl, hrow, hnx, hlt, HA⟩ := hrel
    have d0 := (hnx.cell (p := ⟨bw, 0, none⟩) blt).trans c0
    have d1 := (hnx.cell (p := ⟨bw, 1, none⟩) blt).trans c1
    have d2 := (hnx.cell (p := ⟨bw, 2, none⟩) blt).trans c2
    have d3 := (hnx.cell (p := ⟨bw, 3, none⟩) blt).trans c3
    have bw' : bw < wr.heap.size := by omega
    have e0 : ∀ o, (wr.alloc o).cell? ⟨bw, 0, none⟩ = some (.string ⟨#[118, 97, 108, 117, 101]⟩) := fun o => (World.cell?_alloc_old _ _ _ (Nat.ne_of_lt bw')).trans d0
    have e1 : ∀ o, (wr.alloc o).cell? ⟨bw, 1, none⟩ = some (.string d) := fun o => (World.cell?_alloc_old _ _ _ (Nat.ne_of_lt bw')).trans d1
    have e2 : ∀ o, (wr.alloc o).cell? ⟨bw, 2, none⟩ = some (.string s1) := fun o => (World.cell?_alloc_old _ _ _ (Nat.ne_of_lt bw')).trans d2
    have e3 : ∀ o, (wr.alloc o).cell? ⟨bw, 3, none⟩ = some (.string s2) := fun o => (World.cell?_alloc_old _ _ _ (Nat.ne_of_lt bw')).trans d3
    rcases (by omega : q = 0 ∨ q = 1 ∨ q = 2 ∨ q = 3 ∨ q = 4) with rfl | rfl | rfl | rfl | rfl
    · go_wp2_with (go_at_call 65; (with_reducible refine (impl_numberOf.calls k _ m0 _ N0.out).mono ?_); rintro e w' ⟨rfl, hdr⟩; have hbw := hdr.below; have hrow' := (hbw.block w15.heap.size hlt).trans hrow; have f' := Lib.frozen_of_heap hrow' 0; have x' : w'.cell? ⟨w15.heap.size, 0, none⟩ = some (.int .i64 a0) := Lib.cell_of_heap hrow' 0)
      have hsz := hbw.size
      have hrow2 : (w'.setCell ⟨w15.heap.size, 0, none⟩ (.int .i64 m0)).heap[w15.heap.size]? = some (.cells #[.int .i64 m0, .int .i64 a1, .int .i64 a2, .int .i64 a3] 83 (0, 0)) := by simp [World.setCell, Array.getElem?_modify, hrow']
      go_roundw
      case rel => exact ⟨1, m0, a1, a2, a3, by omega, rfl, hrow2, (hnx.trans (hbw.mono (Nat.le_of_lt hlt))).setCell (p := ⟨w15.heap.size, 0, none⟩) (Nat.le_refl _) _, by simp [World.setCell]; omega, show (0 < 1 → m0 = m0) ∧ (1 < 1 → a1 = m1) ∧ (2 < 1 → a2 = m2) ∧ (3 < 1 → a3 = m3) from ⟨fun _ => rfl, fun h => HA.out.2.1 (by omega), fun h => HA.out.2.2.1 (by omega), fun h => HA.out.2.2.2 (by omega)⟩⟩
      case measure => simp [RowKit.intOf]
    · go_wp2_with (go_at_call 65; (with_reducible refine (impl_numberOf.calls k _ m1 _ N1.out).mono ?_); rintro e w' ⟨rfl, hdr⟩; have hbw := hdr.below; have hrow' := (hbw.block w15.heap.size hlt).trans hrow; have f' := Lib.frozen_of_heap hrow' 1; have x' : w'.cell? ⟨w15.heap.size, 1, none⟩ = some (.int .i64 a1) := Lib.cell_of_heap hrow' 1)
      have hsz := hbw.size
      have hrow2 : (w'.setCell ⟨w15.heap.size, 1, none⟩ (.int .i64 m1)).heap[w15.heap.size]? = some (.cells #[.int .i64 a0, .int .i64 m1, .int .i64 a2, .int .i64 a3] 83 (0, 0)) := by simp [World.setCell, Array.getElem?_modify, hrow']
      go_roundw
      case rel => exact ⟨2, a0, m1, a2, a3, by omega, rfl, hrow2, (hnx.trans (hbw.mono (Nat.le_of_lt hlt))).setCell (p := ⟨w15.heap.size, 1, none⟩) (Nat.le_refl _) _, by simp [World.setCell]; omega, show (0 < 2 → a0 = m0) ∧ (1 < 2 → m1 = m1) ∧ (2 < 2 → a2 = m2) ∧ (3 < 2 → a3 = m3) from ⟨fun h => HA.out.1 (by omega), fun _ => rfl, fun h => HA.out.2.2.1 (by omega), fun h => HA.out.2.2.2 (by omega)⟩⟩
      case measure => simp [RowKit.intOf]
    · go_wp2_with (go_at_call 65; (with_reducible refine (impl_numberOf.calls k _ m2 _ N2.out).mono ?_); rintro e w' ⟨rfl, hdr⟩; have hbw := hdr.below; have hrow' := (hbw.block w15.heap.size hlt).trans hrow; have f' := Lib.frozen_of_heap hrow' 2; have x' : w'.cell? ⟨w15.heap.size, 2, none⟩ = some (.int .i64 a2) := Lib.cell_of_heap hrow' 2)
      have hsz := hbw.size
      have hrow2 : (w'.setCell ⟨w15.heap.size, 2, none⟩ (.int .i64 m2)).heap[w15.heap.size]? = some (.cells #[.int .i64 a0, .int .i64 a1, .int .i64 m2, .int .i64 a3] 83 (0, 0)) := by simp [World.setCell, Array.getElem?_modify, hrow']
      go_roundw
      case rel => exact ⟨3, a0, a1, m2, a3, by omega, rfl, hrow2, (hnx.trans (hbw.mono (Nat.le_of_lt hlt))).setCell (p := ⟨w15.heap.size, 2, none⟩) (Nat.le_refl _) _, by simp [World.setCell]; omega, show (0 < 3 → a0 = m0) ∧ (1 < 3 → a1 = m1) ∧ (2 < 3 → m2 = m2) ∧ (3 < 3 → a3 = m3) from ⟨fun h => HA.out.1 (by omega), fun h => HA.out.2.1 (by omega), fun _ => rfl, fun h => HA.out.2.2.2 (by omega)⟩⟩
      case measure => simp [RowKit.intOf]
    · go_wp2_with (go_at_call 65; (with_reducible refine (impl_numberOf.calls k _ m3 _ N3.out).mono ?_); rintro e w' ⟨rfl, hdr⟩; have hbw := hdr.below; have hrow' := (hbw.block w15.heap.size hlt).trans hrow; have f' := Lib.frozen_of_heap hrow' 3; have x' : w'.cell? ⟨w15.heap.size, 3, none⟩ = some (.int .i64 a3) := Lib.cell_of_heap hrow' 3)
      have hsz := hbw.size
      have hrow2 : (w'.setCell ⟨w15.heap.size, 3, none⟩ (.int .i64 m3)).heap[w15.heap.size]? = some (.cells #[.int .i64 a0, .int .i64 a1, .int .i64 a2, .int .i64 m3] 83 (0, 0)) := by simp [World.setCell, Array.getElem?_modify, hrow']
      go_roundw
      case rel => exact ⟨4, a0, a1, a2, m3, by omega, rfl, hrow2, (hnx.trans (hbw.mono (Nat.le_of_lt hlt))).setCell (p := ⟨w15.heap.size, 3, none⟩) (Nat.le_refl _) _, by simp [World.setCell]; omega, show (0 < 4 → a0 = m0) ∧ (1 < 4 → a1 = m1) ∧ (2 < 4 → a2 = m2) ∧ (3 < 4 → m3 = m3) from ⟨fun h => HA.out.1 (by omega), fun h => HA.out.2.1 (by omega), fun h => HA.out.2.2.1 (by omega), fun _ => rfl⟩⟩
      case measure => simp [RowKit.intOf]
    have hA := HA.out
    obtain rfl : m0 = a0 := (hA.1 (by omega)).symm
    obtain rfl : m1 = a1 := (hA.2.1 (by omega)).symm
    obtain rfl : m2 = a2 := (hA.2.2.1 (by omega)).symm
    obtain rfl : m3 = a3 := (hA.2.2.2 (by omega)).symm
    clear hA HA
    have BB : Hid (Below w.heap.size w wr) := ((Below.refl w.heap.size w).grown g15 (Nat.le_refl _) (by simp)).trans (hnx.mono g15.size)
    have MW := Lib.hid (XE.map_keep (w' := wr) MB.out (fun q c e hq _ => hnx.block q (XE.lt_of_heap hq)))
    obtain ⟨v0, v1, q0, q1, q2⟩ := MW.out; obtain ⟨A1, k1, rfl, hk1, hC1⟩ := Kd.R_reads q1; obtain ⟨A2, k2, rfl, hk2, hC2⟩ := Kd.R_reads q2; clear q1 q2 MW MB HM; have hbl := XE.lt_of_heap q0
    have f0 : ∀ o, (wr.alloc o).cell? ⟨b, 0, none⟩ = some (.slice A1 T.length k1) := fun o => (World.cell?_alloc_old _ _ _ (Nat.ne_of_lt hbl)).trans ((Lib.cell_of_heap q0 0).trans rfl)
    have f1 : ∀ o, (wr.alloc o).cell? ⟨b, 1, none⟩ = some (.slice A2 U.length k2) := fun o => (World.cell?_alloc_old _ _ _ (Nat.ne_of_lt hbl)).trans ((Lib.cell_of_heap q0 1).trans rfl)
    have Q0 := Lib.hid q0; clear q0
    go_wp2_with fail
    obtain ⟨W0, hW0⟩ : ∃ W0, wr.alloc (.cells #[.slice none 0 0, .slice none 0 0] 25) = W0 := ⟨_, rfl⟩
    rw [hW0]
    have x1 : W0.cell? ⟨b, 0, none⟩ = some (.slice A1 T.length k1) := by rw [← hW0]; exact f0 _
    have x2 : W0.cell? ⟨b, 1, none⟩ = some (.slice A2 U.length k2) := by rw [← hW0]; exact f1 _
    have y1 : W0.cell? ⟨w15.heap.size, 1, none⟩ = some (.int .i64 m1) := by rw [← hW0]; exact (World.cell?_alloc_old _ _ _ (Nat.ne_of_lt hlt)).trans ((Lib.cell_of_heap hrow 1).trans rfl)
    have y2 : W0.cell? ⟨w15.heap.size, 2, none⟩ = some (.int .i64 m2) := by rw [← hW0]; exact (World.cell?_alloc_old _ _ _ (Nat.ne_of_lt hlt)).trans ((Lib.cell_of_heap hrow 2).trans rfl)
    have y3 : W0.cell? ⟨w15.heap.size, 3, none⟩ = some (.int .i64 m3) := by rw [← hW0]; exact (World.cell?_alloc_old _ _ _ (Nat.ne_of_lt hlt)).trans ((Lib.cell_of_heap hrow 3).trans rfl)
    have C1 := Lib.hid (show Kd.C (Kd.int .i64) W0 A1 T.length T by rw [← hW0]; exact cA hC1 _)
    have C2 := Lib.hid (show Kd.C (Kd.int .i64) W0 A2 U.length U by rw [← hW0]; exact cA hC2 _)
    have hb0 : Below wr.heap.size wr W0 := by rw [← hW0]; exact (Below.refl _ _).alloc (Nat.le_refl _) _
    have zb : b < W0.heap.size := by rw [← hW0]; simp; omega
    have za : w15.heap.size < W0.heap.size := by rw [← hW0]; simp; omega
    have HTW := XE.tab_keep (XE.tab_keep HT.out BB.out) hb0
    clear hW0 hC1 hC2 f0 f1
    go_region_held3 (fun w' => w'.cell? ⟨b, 0, none⟩ = some (.slice A1 T.length k1) ∧ w'.cell? ⟨b, 1, none⟩ = some (.slice A2 U.length k2) ∧ w'.cell? ⟨w15.heap.size, 1, none⟩ = some (.int .i64 m1) ∧ w'.cell? ⟨w15.heap.size, 2, none⟩ = some (.int .i64 m2) ∧ w'.cell? ⟨w15.heap.size, 3, none⟩ = some (.int .i64 m3))
      (first | go_keep | exact ⟨((XE.undrew hb3).cell (p := ⟨b, 0, none⟩) zb).trans x1, ((XE.undrew hb3).cell (p := ⟨b, 1, none⟩) zb).trans x2, ((XE.undrew hb3).cell (p := ⟨w15.heap.size, 1, none⟩) za).trans y1, ((XE.undrew hb3).cell (p := ⟨w15.heap.size, 2, none⟩) za).trans y2, ((XE.undrew hb3).cell (p := ⟨w15.heap.size, 3, none⟩) za).trans y3⟩ | exact ⟨(hb4.cell (p := ⟨b, 0, none⟩) (Nat.lt_of_lt_of_le zb (XE.undrew hb3).size)).trans (((XE.undrew hb3).cell (p := ⟨b, 0, none⟩) zb).trans x1), (hb4.cell (p := ⟨b, 1, none⟩) (Nat.lt_of_lt_of_le zb (XE.undrew hb3).size)).trans (((XE.undrew hb3).cell (p := ⟨b, 1, none⟩) zb).trans x2), (hb4.cell (p := ⟨w15.heap.size, 1, none⟩) (Nat.lt_of_lt_of_le za (XE.undrew hb3).size)).trans (((XE.undrew hb3).cell (p := ⟨w15.heap.size, 1, none⟩) za).trans y1), (hb4.cell (p := ⟨w15.heap.size, 2, none⟩) (Nat.lt_of_lt_of_le za (XE.undrew hb3).size)).trans (((XE.undrew hb3).cell (p := ⟨w15.heap.size, 2, none⟩) za).trans y2), (hb4.cell (p := ⟨w15.heap.size, 3, none⟩) (Nat.lt_of_lt_of_le za (XE.undrew hb3).size)).trans (((XE.undrew hb3).cell (p := ⟨w15.heap.size, 3, none⟩) za).trans y3)⟩ | (trace_state; fail))
      ((first
        | (go_at_call 15; (with_reducible refine (impl_RibbonValue.calls k A1 k1 T A2 k2 U m1 m2 m3 v _ ?ca hk1 ?cb hk2 HD.out).mono ?_); (case ca => exact cD C1.out); (case cb => exact cD C2.out); rintro e w3 ⟨rfl, hb3⟩)
        | (go_at_call 75; (with_reducible refine (told v s _ ?ct HG.out).mono ?_); (case ct => exact XE.tab_keep HTW (XE.undrew hb3)); rintro e w4 ⟨rfl, hb4⟩)))
    all_goals
      go_wp2
      go_ret
      exact ⟨rfl, BB.out.trans ((hb0.trans (((XE.undrew hb3).mono hb0.size).trans (hb4.mono (Nat.le_trans hb0.size (XE.undrew hb3).size)))).mono BB.out.size)⟩
theorem many_map : XC.many.atKey (.string [109, 97, 112]) (.lit (.int .i64 0)) = .lit (.int .i64 4) := by kernel_rfl
set_option maxHeartbeats 2000000 in
set_option maxRecDepth 100000 in
theorem cmd_map (k : Nat) (T U : List Int) (B b bw : Nat) (d : ByteArray) (s1 : ByteArray) (s2 : ByteArray) (w : World) (T1 U1 : List Int)
  (hm : XE.MapAt w B b T U) (hb : w.heap[bw]? = some (.cells ([⟨#[109, 97, 112]⟩, d, s1, s2].map Value.string).toArray 9 (0, 0))) (hBb : B ≤ b) (hBw : B ≤ w.heap.size) (m0 : Int) (n0 : impl_numberOf.f k ⟨#[109, 97, 112]⟩ = some m0) (m1 : Int) (n1 : impl_numberOf.f k d = some m1) (m2 : Int) (n2 : impl_numberOf.f k s1 = some m2) (m3 : Int) (n3 : impl_numberOf.f k s2 = some m3) (h1 : impl_PermFrom.f k m1 s1 = some (T1, true)) (h2 : impl_PermFrom.f k m1 s2 = some (U1, true)) (h3 : impl_MapValid.f k T1 U1 = some true) :
  Calls Tryz.prog 34 #[.pointer (some ⟨b, 0, none⟩), .slice (some ⟨bw, 0, none⟩) 4 4] w fun e w' => e = .returned (.string ⟨#[111, 107]⟩) ∧ XE.MapAt w' B b T1 U1 ∧ w.grownBy w' (some b) := by
  have b0 : w.cell? ⟨bw, 0, none⟩ = some (.string ⟨#[109, 97, 112]⟩) := (Lib.cell_of_heap hb 0).trans rfl
  have b1 : w.cell? ⟨bw, 1, none⟩ = some (.string d) := (Lib.cell_of_heap hb 1).trans rfl
  have b2 : w.cell? ⟨bw, 2, none⟩ = some (.string s1) := (Lib.cell_of_heap hb 2).trans rfl
  have b3 : w.cell? ⟨bw, 3, none⟩ = some (.string s2) := (Lib.cell_of_heap hb 3).trans rfl
  have hmm := @run_makeMap Tryz.prog
  obtain ⟨w1, w2, w3, w4, w5, w6, w7, w8, w9, w10, w11, w12, w13, w14, w15, r1, r2, r3, r4, r5, r6, r7, r8, r9, r10, r11, r12, r13, r14, r15, o15, g15⟩ := XC.laid w
  obtain ⟨n, hrun, hat, _⟩ := o15.lookup_int XC.key80 XC.und80 XC.und3 (XC.zero3 _) (keyOf_string_mk XC.und9 (s := ⟨#[109, 97, 112]⟩) (by decide))
  have hn : n = 4 := by
    have h := many_map.symm.trans hat
    simp only [DataW.lit.injEq, Lit.int.injEq] at h
    exact h.2.symm
  subst hn
  have c0 := g15.cell b0 (by simp)
  have c1 := g15.cell b1 (by simp)
  have c2 := g15.cell b2 (by simp)
  have c3 := g15.cell b3 (by simp)
  clear hat o15
  have mb := XE.map_keep (w' := w15) hm (fun q c e hq _ => g15.block q (XE.lt_of_heap hq) (by simp))
  have hz15 := g15.size
  have MB := Lib.hid mb; clear mb
  have H1 := Lib.hid h1; clear h1
  have H2 := Lib.hid h2; clear h2
  have H3 := Lib.hid h3; clear h3
  have HM := Lib.hid hm; clear hm
  have HB := Lib.hid hb; clear hb
  have N0 := Lib.hid n0; clear n0
  have N1 := Lib.hid n1; clear n1
  have N2 := Lib.hid n2; clear n2
  have N3 := Lib.hid n3; clear n3
  go_enter Tryz.func34, Tryz.ntmps34
  go_wp2
  have blt : bw < w15.heap.size := wL _ _ c0
  go_loopw [31] (fun i wr => ∃ (q : Nat) (a0 a1 a2 a3 : Int), q ≤ 4 ∧ i = .int .i64 q ∧ wr.heap[w15.heap.size]? = some (.cells #[.int .i64 a0, .int .i64 a1, .int .i64 a2, .int .i64 a3] 83 (0, 0)) ∧ Below w15.heap.size w15 wr ∧ w15.heap.size < wr.heap.size ∧ Hid ((0 < q → a0 = m0) ∧ (1 < q → a1 = m1) ∧ (2 < q → a2 = m2) ∧ (3 < q → a3 = m3)))
    (fun i _ => 4 - (RowKit.intOf i).toNat)
  case atStart => exact ⟨0, 0, 0, 0, 0, by omega, rfl, heap_alloc_new _ _, (Below.refl _ _).alloc (Nat.le_refl _) _, by simp, show (0 < 0 → (0 : Int) = m0) ∧ (1 < 0 → (0 : Int) = m1) ∧ (2 < 0 → (0 : Int) = m2) ∧ (3 < 0 → (0 : Int) = m3) from ⟨fun h => absurd h (by omega), fun h => absurd h (by omega), fun h => absurd h (by omega), fun h => absurd h (by omega)⟩⟩
  case round =>
    obtain ⟨q, a0, a1, a2, a3, hq, rfl, hrow, hnx, hlt, HA⟩ := hrel
    have d0 := (hnx.cell (p := ⟨bw, 0, none⟩) blt).trans c0
    have d1 := (hnx.cell (p := ⟨bw, 1, none⟩) blt).trans c1
    have d2 := (hnx.cell (p := ⟨bw, 2, none⟩) blt).trans c2
    have d3 := (hnx.cell (p := ⟨bw, 3, none⟩) blt).trans c3
    have bw' : bw < wr.heap.size := by omega
    have e0 : ∀ o, (wr.alloc o).cell? ⟨bw, 0, none⟩ = some (.string ⟨#[109, 97, 112]⟩) := fun o => (World.cell?_alloc_old _ _ _ (Nat.ne_of_lt bw')).trans d0
    have e1 : ∀ o, (wr.alloc o).cell? ⟨bw, 1, none⟩ = some (.string d) := fun o => (World.cell?_alloc_old _ _ _ (Nat.ne_of_lt bw')).trans d1
    have e2 : ∀ o, (wr.alloc o).cell? ⟨bw, 2, none⟩ = some (.string s1) := fun o => (World.cell?_alloc_old _ _ _ (Nat.ne_of_lt bw')).trans d2
    have e3 : ∀ o, (wr.alloc o).cell? ⟨bw, 3, none⟩ = some (.string s2) := fun o => (World.cell?_alloc_old _ _ _ (Nat.ne_of_lt bw')).trans d3
    rcases (by omega : q = 0 ∨ q = 1 ∨ q = 2 ∨ q = 3 ∨ q = 4) with rfl | rfl | rfl | rfl | rfl
    · go_wp2_with (go_at_call 65; (with_reducible refine (impl_numberOf.calls k _ m0 _ N0.out).mono ?_); rintro e w' ⟨rfl, hdr⟩; have hbw := hdr.below; have hrow' := (hbw.block w15.heap.size hlt).trans hrow; have f' := Lib.frozen_of_heap hrow' 0; have x' : w'.cell? ⟨w15.heap.size, 0, none⟩ = some (.int .i64 a0) := Lib.cell_of_heap hrow' 0)
      have hsz := hbw.size
      have hrow2 : (w'.setCell ⟨w15.heap.size, 0, none⟩ (.int .i64 m0)).heap[w15.heap.size]? = some (.cells #[.int .i64 m0, .int .i64 a1, .int .i64 a2, .int .i64 a3] 83 (0, 0)) := by simp [World.setCell, Array.getElem?_modify, hrow']
      go_roundw
      case rel => exact ⟨1, m0, a1, a2, a3, by omega, rfl, hrow2, (hnx.trans (hbw.mono (Nat.le_of_lt hlt))).setCell (p := ⟨w15.heap.size, 0, none⟩) (Nat.le_refl _) _, by simp [World.setCell]; omega, show (0 < 1 → m0 = m0) ∧ (1 < 1 → a1 = m1) ∧ (2 < 1 → a2 = m2) ∧ (3 < 1 → a3 = m3) from ⟨fun _ => rfl, fun h => HA.out.2.1 (by omega), fun h => HA.out.2.2.1 (by omega), fun h => HA.out.2.2.2 (by omega)⟩⟩
      case measure => simp [RowKit.intOf]
    · go_wp2_with (go_at_call 65; (with_reducible refine (impl_numberOf.calls k _ m1 _ N1.out).mono ?_); rintro e w' ⟨rfl, hdr⟩; have hbw := hdr.below; have hrow' := (hbw.block w15.heap.size hlt).trans hrow; have f' := Lib.frozen_of_heap hrow' 1; have x' : w'.cell? ⟨w15.heap.size, 1, none⟩ = some (.int .i64 a1) := Lib.cell_of_heap hrow' 1)
      have hsz := hbw.size
      have hrow2 : (w'.setCell ⟨w15.heap.size, 1, none⟩ (.int .i64 m1)).heap[w15.heap.size]? = some (.cells #[.int .i64 a0, .int .i64 m1, .int .i64 a2, .int .i64 a3] 83 (0, 0)) := by simp [World.setCell, Array.getElem?_modify, hrow']
      go_roundw
      case rel => exact ⟨2, a0, m1, a2, a3, by omega, rfl, hrow2, (hnx.trans (hbw.mono (Nat.le_of_lt hlt))).setCell (p := ⟨w15.heap.size, 1, none⟩) (Nat.le_refl _) _, by simp [World.setCell]; omega, show (0 < 2 → a0 = m0) ∧ (1 < 2 → m1 = m1) ∧ (2 < 2 → a2 = m2) ∧ (3 < 2 → a3 = m3) from ⟨fun h => HA.out.1 (by omega), fun _ => rfl, fun h => HA.out.2.2.1 (by omega), fun h => HA.out.2.2.2 (by omega)⟩⟩
      case measure => simp [RowKit.intOf]
    · go_wp2_with (go_at_call 65; (with_reducible refine (impl_numberOf.calls k _ m2 _ N2.out).mono ?_); rintro e w' ⟨rfl, hdr⟩; have hbw := hdr.below; have hrow' := (hbw.block w15.heap.size hlt).trans hrow; have f' := Lib.frozen_of_heap hrow' 2; have x' : w'.cell? ⟨w15.heap.size, 2, none⟩ = some (.int .i64 a2) := Lib.cell_of_heap hrow' 2)
      have hsz := hbw.size
      have hrow2 : (w'.setCell ⟨w15.heap.size, 2, none⟩ (.int .i64 m2)).heap[w15.heap.size]? = some (.cells #[.int .i64 a0, .int .i64 a1, .int .i64 m2, .int .i64 a3] 83 (0, 0)) := by simp [World.setCell, Array.getElem?_modify, hrow']
      go_roundw
      case rel => exact ⟨3, a0, a1, m2, a3, by omega, rfl, hrow2, (hnx.trans (hbw.mono (Nat.le_of_lt hlt))).setCell (p := ⟨w15.heap.size, 2, none⟩) (Nat.le_refl _) _, by simp [World.setCell]; omega, show (0 < 3 → a0 = m0) ∧ (1 < 3 → a1 = m1) ∧ (2 < 3 → m2 = m2) ∧ (3 < 3 → a3 = m3) from ⟨fun h => HA.out.1 (by omega), fun h => HA.out.2.1 (by omega), fun _ => rfl, fun h => HA.out.2.2.2 (by omega)⟩⟩
      case measure => simp [RowKit.intOf]
    · go_wp2_with (go_at_call 65; (with_reducible refine (impl_numberOf.calls k _ m3 _ N3.out).mono ?_); rintro e w' ⟨rfl, hdr⟩; have hbw := hdr.below; have hrow' := (hbw.block w15.heap.size hlt).trans hrow; have f' := Lib.frozen_of_heap hrow' 3; have x' : w'.cell? ⟨w15.heap.size, 3, none⟩ = some (.int .i64 a3) := Lib.cell_of_heap hrow' 3)
      have hsz := hbw.size
      have hrow2 : (w'.setCell ⟨w15.heap.size, 3, none⟩ (.int .i64 m3)).heap[w15.heap.size]? = some (.cells #[.int .i64 a0, .int .i64 a1, .int .i64 a2, .int .i64 m3] 83 (0, 0)) := by simp [World.setCell, Array.getElem?_modify, hrow']
      go_roundw
      case rel => exact ⟨4, a0, a1, a2, m3, by omega, rfl, hrow2, (hnx.trans (hbw.mono (Nat.le_of_lt hlt))).setCell (p := ⟨w15.heap.size, 3, none⟩) (Nat.le_refl _) _, by simp [World.setCell]; omega, show (0 < 4 → a0 = m0) ∧ (1 < 4 → a1 = m1) ∧ (2 < 4 → a2 = m2) ∧ (3 < 4 → m3 = m3) from ⟨fun h => HA.out.1 (by omega), fun h => HA.out.2.1 (by omega), fun h => HA.out.2.2.1 (by omega), fun _ => rfl⟩⟩
      case measure => simp [RowKit.intOf]
    have hA := HA.out
    obtain rfl : m0 = a0 := (hA.1 (by omega)).symm
    obtain rfl : m1 = a1 := (hA.2.1 (by omega)).symm
    obtain rfl : m2 = a2 := (hA.2.2.1 (by omega)).symm
    obtain rfl : m3 = a3 := (hA.2.2.2 (by omega)).symm
    clear hA HA
    have BB : Hid (Below w.heap.size w wr) := ((Below.refl w.heap.size w).grown g15 (Nat.le_refl _) (by simp)).trans (hnx.mono g15.size)
    have MW := Lib.hid (XE.map_keep (w' := wr) MB.out (fun q c e hq _ => hnx.block q (XE.lt_of_heap hq)))
    obtain ⟨v0, v1, q0, q1, q2⟩ := MW.out; clear q1 q2 MW MB HM; have hbl := XE.lt_of_heap q0
    have Q0 := Lib.hid q0; clear q0
    go_wp2_with fail
    obtain ⟨W0, hW0⟩ : ∃ W0, wr.alloc (.cells #[.slice none 0 0, .slice none 0 0] 25) = W0 := ⟨_, rfl⟩
    rw [hW0]
    have x1 : W0.cell? ⟨w15.heap.size, 1, none⟩ = some (.int .i64 m1) := by rw [← hW0]; exact (World.cell?_alloc_old _ _ _ (Nat.ne_of_lt hlt)).trans ((Lib.cell_of_heap hrow 1).trans rfl)
    have x2 : W0.cell? ⟨bw, 2, none⟩ = some (.string s1) := by rw [← hW0]; exact e2 _
    have x3 : W0.cell? ⟨bw, 3, none⟩ = some (.string s2) := by rw [← hW0]; exact e3 _
    have zb : bw < W0.heap.size := by rw [← hW0]; simp; omega
    have za : w15.heap.size < W0.heap.size := by rw [← hW0]; simp; omega
    have hn0 : W0.heap[wr.heap.size]? = some (.cells #[.slice none 0 0, .slice none 0 0] 25 (0, 0)) := by rw [← hW0]; exact heap_alloc_new _ _
    have hb0 : Below wr.heap.size wr W0 := by rw [← hW0]; exact (Below.refl _ _).alloc (Nat.le_refl _) _
    have zn : wr.heap.size < W0.heap.size := by rw [← hW0]; simp
    have HN0 := Lib.hid hn0; clear hn0 hW0
    go_region_held3 (fun w' => w'.cell? ⟨w15.heap.size, 1, none⟩ = some (.int .i64 m1) ∧ w'.cell? ⟨bw, 2, none⟩ = some (.string s1)) (first | go_keep | exact ⟨((XE.undrew hb3).cell (p := ⟨w15.heap.size, 1, none⟩) za).trans x1, ((XE.undrew hb3).cell (p := ⟨bw, 2, none⟩) zb).trans x2⟩) ((go_at_call 66; refine (impl_PermFrom.calls k m1 s1 T1 true _ H1.out).mono ?_; rintro e w3 ⟨y, rfl, y0, hb3⟩; obtain ⟨A3, k3, rfl, hk3, _⟩ := Kd.R_reads y0))
    have hb3' := XE.undrew hb3; have hs3 := hb3'.size
    have z1 := (hb3'.cell (p := ⟨w15.heap.size, 1, none⟩) za).trans x1
    have z3 := (hb3'.cell (p := ⟨bw, 3, none⟩) zb).trans x3
    have za3 := Nat.lt_of_lt_of_le za hs3; have zb3 := Nat.lt_of_lt_of_le zb hs3
    have Y0 := Lib.hid y0; clear y0 x1 x2 x3
    go_wp2_with fail
    go_region_held3 (fun w' => w'.cell? ⟨w15.heap.size, 1, none⟩ = some (.int .i64 m1) ∧ w'.cell? ⟨bw, 3, none⟩ = some (.string s2)) (first | go_keep | exact ⟨((XE.undrew hb4).cell (p := ⟨w15.heap.size, 1, none⟩) za3).trans z1, ((XE.undrew hb4).cell (p := ⟨bw, 3, none⟩) zb3).trans z3⟩) ((go_at_call 66; refine (impl_PermFrom.calls k m1 s2 U1 true _ H2.out).mono ?_; rintro e w4 ⟨y, rfl, y1, hb4⟩; obtain ⟨A4, k4, rfl, hk4, _⟩ := Kd.R_reads y1))
    have hb4' := XE.undrew hb4; have hs4 := hb4'.size
    have hB4 := hb0.trans ((hb3'.mono (by omega)).trans (hb4'.mono (by omega)))
    have hnb : w4.heap[wr.heap.size]? = some (.cells #[.slice none 0 0, .slice none 0 0] 25 (0, 0)) := (hb4'.block _ (by omega)).trans ((hb3'.block _ zn).trans HN0.out)
    have g0 : w4.cell? ⟨wr.heap.size, 0, none⟩ = some (.slice none 0 0) := (Lib.cell_of_heap hnb 0).trans rfl
    have g1 : w4.cell? ⟨wr.heap.size, 1, none⟩ = some (.slice none 0 0) := (Lib.cell_of_heap hnb 1).trans rfl
    have fz0 := Lib.frozen_of_heap hnb 0; have fz1 := Lib.frozen_of_heap hnb 1
    have Y1 := Lib.hid y1; clear y1
    have Y0' := Lib.hid (rB Y0.out hb4'); clear Y0
    have HNB := Lib.hid hnb; clear hnb z1 z3 hb3 hb4
    have HQ : Hid (((w4.setCell ⟨wr.heap.size, 0, none⟩ (.slice A3 T1.length k3)).setCell ⟨wr.heap.size, 1, none⟩ (.slice A4 U1.length k4)).heap[wr.heap.size]? = some (.cells #[.slice A3 T1.length k3, .slice A4 U1.length k4] 25 (0, 0))) := by
      have := HNB.out
      show _ = _
      simp [World.setCell, Array.getElem?_modify, this]
    have QC := Lib.hid ((hB4.block b hbl).trans Q0.out)
    go_wp2_with (first
      | (go_at_call 24; (with_reducible refine (impl_MapValid.calls k (fun k_ => k_ < ((w4.setCell ⟨wr.heap.size, 0, none⟩ (.slice A3 T1.length k3)).setCell ⟨wr.heap.size, 1, none⟩ (.slice A4 U1.length k4)).heap.size) A3 k3 T1 (fun k_ => k_ < ((w4.setCell ⟨wr.heap.size, 0, none⟩ (.slice A3 T1.length k3)).setCell ⟨wr.heap.size, 1, none⟩ (.slice A4 U1.length k4)).heap.size) A4 k4 U1 true _ ?ca ?cb H3.out).mono ?_); (case ca => exact Kd.V_mk hk3 (Kd.C_F (Kd.heap_int .i64) (XE.row_c (XE.row_of Y0'.out (Nat.zero_le _) (fun q c hc => by rw [Below.heap_setCell _ _ _ _ (fun e => by rw [e, HNB.out] at hc; simp at hc), Below.heap_setCell _ _ _ _ (fun e => by rw [e, HNB.out] at hc; simp at hc)]))))); (case cb => exact Kd.V_mk hk4 (Kd.C_F (Kd.heap_int .i64) (XE.row_c (XE.row_of Y1.out (Nat.zero_le _) (fun q c hc => by rw [Below.heap_setCell _ _ _ _ (fun e => by rw [e, HNB.out] at hc; simp at hc), Below.heap_setCell _ _ _ _ (fun e => by rw [e, HNB.out] at hc; simp at hc)]))))); rintro e w5 ⟨rfl, hb5⟩; have hn5 := (hb5.block wr.heap.size (by simp [World.setCell]; omega)).trans HQ.out; have l0 : w5.cell? ⟨wr.heap.size, 0, none⟩ = some (.slice A3 T1.length k3) := (Lib.cell_of_heap hn5 0).trans rfl; have l1 : w5.cell? ⟨wr.heap.size, 1, none⟩ = some (.slice A4 U1.length k4) := (Lib.cell_of_heap hn5 1).trans rfl; have HB5 := (hb5.block b (by simp [World.setCell]; omega)).trans ((Below.heap_setCell _ _ _ _ (by show b ≠ wr.heap.size; omega)).trans ((Below.heap_setCell _ _ _ _ (by show b ≠ wr.heap.size; omega)).trans QC.out)); have QD := Lib.hid HB5; clear HB5 hn5)
      | (go_at_call 79; (with_reducible refine (XE.become_ok b A3 A4 T1.length U1.length k3 k4 #[v0, v1] _ rfl QD.out).mono ?_); rintro e w6 ⟨rfl, hb6, hg6⟩))
    go_ret
    exact ⟨rfl, XE.finish hBw BB.out hB4 (Nat.le_refl _) HNB.out ⟨_, Q0.out⟩ (rL Y0'.out (by show wr.heap.size ≤ W0.heap.size; omega)) (rL Y1.out (by show wr.heap.size ≤ w3.heap.size; omega)) (XE.below_grown hb5 hg6) hb6⟩
def cmdF (k : Nat) (T U : List Int) : List ByteArray → Option (ByteArray × List Int × List Int)
  | [a, d, s1, s2] => if a = ⟨#[118, 97, 108, 117, 101]⟩ then ((impl_numberOf.f k a).bind fun _ => (impl_numberOf.f k d).bind fun n1 => (impl_numberOf.f k s1).bind fun n2 => (impl_numberOf.f k s2).bind fun n3 => (impl_RibbonValue.f k T U n1 n2 n3).bind fun v => (toldF v).bind fun s => some (s, T, U)) else (if a = ⟨#[109, 97, 112]⟩ then ((impl_numberOf.f k a).bind fun _ => (impl_numberOf.f k d).bind fun n => (impl_numberOf.f k s1).bind fun _ => (impl_numberOf.f k s2).bind fun _ => (impl_PermFrom.f k n s1).bind fun x => (impl_PermFrom.f k n s2).bind fun y => if x.2 = true ∧ y.2 = true then (impl_MapValid.f k x.1 y.1).bind fun v => (if v = true then some (⟨#[111, 107]⟩, x.1, y.1) else none) else none) else (none))
  | _ => none
theorem cmd_good (k : Nat) (w0 : World) (htab : XE.Tab w0) : XE.Good w0 (cmdF k) := by
  intro T U ws r B b bw w h h0 hm hb hBb hBw
  unfold cmdF at h
  split at h
  · rename_i a d s1 s2
    by_cases h_ : a = ⟨#[118, 97, 108, 117, 101]⟩
    · subst h_
      rw [if_pos rfl] at h; obtain ⟨m0, n0, h⟩ := Option.bind_eq_some_iff.1 h; obtain ⟨m1, n1, h⟩ := Option.bind_eq_some_iff.1 h; obtain ⟨m2, n2, h⟩ := Option.bind_eq_some_iff.1 h; obtain ⟨m3, n3, h⟩ := Option.bind_eq_some_iff.1 h; obtain ⟨v, hd, h⟩ := Option.bind_eq_some_iff.1 h; obtain ⟨s, hg, h⟩ := Option.bind_eq_some_iff.1 h; obtain rfl := sI h
      refine (cmd_value k T U B b bw d s1 s2 w v s hm hb hBb hBw m0 n0 m1 n1 m2 n2 m3 n3 hd hg (XE.tab_keep htab h0)).mono ?_
      rintro e w' ⟨he, hB⟩
      exact ⟨he, XE.map_keep hm (fun q c e hq _ => hB.block q (XE.lt_of_heap hq)), ⟨hB.os, hB.tape, hB.output, hB.size, fun q hq _ => hB.block q hq⟩⟩
    rw [if_neg h_] at h; clear h_
    by_cases h_ : a = ⟨#[109, 97, 112]⟩
    · subst h_
      rw [if_pos rfl] at h; obtain ⟨m0, n0, h⟩ := Option.bind_eq_some_iff.1 h; obtain ⟨m1, n1, h⟩ := Option.bind_eq_some_iff.1 h; obtain ⟨m2, n2, h⟩ := Option.bind_eq_some_iff.1 h; obtain ⟨m3, n3, h⟩ := Option.bind_eq_some_iff.1 h; obtain ⟨⟨T1, o1⟩, h1, h⟩ := Option.bind_eq_some_iff.1 h; obtain ⟨⟨U1, o2⟩, h2, h⟩ := Option.bind_eq_some_iff.1 h
      split at h
      · rename_i hs
        obtain ⟨rfl, rfl⟩ : o1 = true ∧ o2 = true := hs
        obtain ⟨v, h3, h⟩ := Option.bind_eq_some_iff.1 h
        split at h
        · rename_i hv
          subst hv; obtain rfl := sI h
          exact cmd_map k T U B b bw d s1 s2 w T1 U1 hm hb hBb hBw m0 n0 m1 n1 m2 n2 m3 n3 h1 h2 h3
        cases h
      cases h
    rw [if_neg h_] at h; clear h_
    cases h
  cases h
end impl_Execute
def impl_Execute.f (k : Nat) (a0 : ByteArray) : Option ByteArray := if a0.size ≤ 500 then (XE.go (impl_Execute.cmdF k) (XE.linesOf a0).dropLast [1, 0] [1, 0] ⟨#[]⟩).bind fun r => (if r.1.length < 100 then some (r.2.2 ++ (⟨#[100, 97, 114, 116, 115, 32]⟩ ++ ⟨(Lib.decDigits r.1.length).toArray⟩ ++ ⟨#[10]⟩)) else none) else none
theorem impl_Execute.calls (k : Nat) (a0 : ByteArray) (r : ByteArray) (w : World) (htab : XE.Tab w) (h : impl_Execute.f k a0 = some r) : Calls Tryz.prog 10 #[.string a0] w fun e w' => e = .returned (.string r) ∧ Below w.heap.size w w' := by
  unfold impl_Execute.f at h
  split at h
  · rename_i ha
    obtain ⟨⟨T, U, o⟩, h1, h2⟩ := Option.bind_eq_some_iff.1 h
    split at h2
    · rename_i hT
      obtain rfl := sI h2
      exact XE.exec _ a0 o T U w (impl_Execute.cmd_good k w htab) ha hT h1
    cases h2
  cases h


end Go.Proofs.YtjebcgbmlbemcaaGreatDoor.PFnExecuteValue
