-- Made by a program of this session (wip/tools) out of the loaded program; not trusted: Lean checks it.
import Derived.Test.YtjebcgbmlbemcaaGreatDoorXE
import Derived.Test.YtjebcgbmlbemcaaGreatDoorXC
import Derived.Test.YtjebcgbmlbemcaaGreatDoorPFnExecuteTuttex0
import Derived.Test.YtjebcgbmlbemcaaGreatDoorPFnExecuteTuttex4
-- packed
namespace Go.Proofs.YtjebcgbmlbemcaaGreatDoor.PFnExecuteTutte
open Go.RowKit Go.Proofs.YtjebcgbmlbemcaaGreatDoorW.PrintWords Go.Proofs.YtjebcgbmlbemcaaGreatDoorW.PrintLast Go.Proofs.YtjebcgbmlbemcaaGreatDoorW.PrintMore
attribute [local go_sem] max2_int min2_int max_two min_two max_three min_three max_four min_four   -- for this text's walks alone
set_option linter.unusedVariables false
set_option linter.unusedSimpArgs false

/-! ### laws_sameInts: function 31 -/
def laws_sameInts.l0 : Nat → List Int → List Int → Int → Option (Bool)
  | 0, _, _, _ => none
  | k + 1, x0, x1, x5 => if x5 < (x0.length : Int) then (if 0 ≤ x5 then (if x5 < (x1.length : Int) then (if (rd x0 x5) = (rd x1 x5) then (laws_sameInts.l0 k x0 x1 (wrap64 (x5 + 1))) else (some false)) else (none)) else (none)) else (some true)
def laws_sameInts.f (k : Nat) (l0 : List Int) (l1 : List Int) : Option (Bool) := if (l0.length : Int) = (l1.length : Int) then (laws_sameInts.l0 k l0 l1 0) else (some false)
set_option maxHeartbeats 8000000 in
set_option maxRecDepth 100000 in
theorem laws_sameInts.calls (k : Nat) (A0 : Option Addr) (c0 : Nat) (l0 : List Int) (A1 : Option Addr) (c1 : Nat) (l1 : List Int) (r : Bool) (w : World) (hr0 : Kd.C (Kd.int .i64) w A0 l0.length l0) (hc0 : l0.length ≤ c0) (hr1 : Kd.C (Kd.int .i64) w A1 l1.length l1) (hc1 : l1.length ≤ c1) (h : laws_sameInts.f k l0 l1 = some r) :
    Calls Tryz.prog 31 #[.slice A0 l0.length c0, .slice A1 l1.length c1] w fun e w' => e = .returned (.bool r) ∧ Drawn0 w w' := by
 have HR0 := A0_ hr0; have HC0 := A0_ hc0; clear hr0 hc0; have HR1 := A0_ hr1; have HC1 := A0_ hc1; clear hr1 hc1
 have H : (if (l0.length : Int) = (l1.length : Int) then (laws_sameInts.l0 k l0 l1 0) else (some false)) = some r := h
 clear h
 by_cases c3 : (l0.length : Int) = (l1.length : Int)
 ·rw [if_pos c3] at H
  have c3b0 : ((l0.length : Int) == (l1.length : Int)) = true := beq_iff_eq.mpr c3
  have c3b1 : ((l0.length : Int) != (l1.length : Int)) = false := bne_eq_false_iff_eq.mpr c3
  have c3b2 : (l0.length == l1.length) = true := by first | simpa using c3 | (simp at c3 ⊢; omega)
  clear c3; have H' := A0_ H; clear H
  go_enter Tryz.func31, Tryz.ntmps31
  go_wp2
  repeat (go_quiet (fail); try go_wp2)
  go_loopg [5] k (fun kq v5 w' => ∃ (x5_1 : Int), v5 = .int .i64 x5_1 ∧ Aside0 (laws_sameInts.l0 kq l0 l1 x5_1 = some r) ∧ Aside0 (kq ≤ k) ∧ Drawn0 w w')
  case atStart => exact ⟨(0), zt, H', ⟨Nat.le_refl _⟩, by repeat (first | exact Drawn0.refl _ | apply Drawn0.step)⟩
  case round =>
   clear H'; (try clear c1); (try clear p2); (try clear c3); (try clear c3b0); (try clear c3b1); (try clear c3b2); obtain ⟨x5_1, rfl, HA, HK1, ⟨m1, rfl⟩⟩ := hrel
   cases gk with
   | zero => exact absurd HA.out (by simp [laws_sameInts.l0])
   | succ k1 =>
    have H := HA.out; clear HA; simp only [laws_sameInts.l0] at H
    by_cases c4 : x5_1 < (l0.length : Int)
    ·rw [if_pos c4] at H
     have c4b0 := dT c4; clear c4
     by_cases c5 : 0 ≤ x5_1
     ·rw [if_pos c5] at H
      have c5b0 := dT c5; clear c5
      by_cases c6 : x5_1 < (l1.length : Int)
      ·rw [if_pos c6] at H
       have c6b0 := dT c6; clear c6
       by_cases c7 : (rd l0 x5_1) = (rd l1 x5_1)
       ·rw [if_pos c7] at H
        have c7b0 : ((rd l0 x5_1) == (rd l1 x5_1)) = true := beq_iff_eq.mpr c7
        have c7b1 : ((rd l0 x5_1) != (rd l1 x5_1)) = false := bne_eq_false_iff_eq.mpr c7
        clear c7; have H' := A0_ H; clear H
        have p325 : 0 ≤ (x5_1 : Int) := zd
        have q325 : x5_1 < (l0.length : Int) := zd
        obtain ⟨ad325, e325, hx325_0⟩ := tI HR0.out x5_1 p325 q325
        cases e325
        replace p325 := eq_true p325; replace q325 := eq_true q325
        have p326 : 0 ≤ (x5_1 : Int) := zd
        have q326 : x5_1 < (l1.length : Int) := zd
        obtain ⟨ad326, e326, hx326_0⟩ := tI HR1.out x5_1 p326 q326
        cases e326
        replace p326 := eq_true p326; replace q326 := eq_true q326
        go_wp2
        repeat (go_quiet (fail); try go_wp2)
        go_roundg k1
        case measure => have := HK1.out; omega
        case rel => exact ⟨(wrap64 (x5_1 + 1)), zt, H', ⟨by have := HK1.out; omega⟩, by repeat (first | exact Drawn0.refl _ | apply Drawn0.step)⟩
       rw [if_neg c7] at H
       have c7b0 : ((rd l0 x5_1) == (rd l1 x5_1)) = false := beq_eq_false_iff_ne.mpr c7
       have c7b1 : ((rd l0 x5_1) != (rd l1 x5_1)) = true := bne_iff_ne.mpr c7
       obtain rfl := sI H
       have p325 : 0 ≤ (x5_1 : Int) := zd
       have q325 : x5_1 < (l0.length : Int) := zd
       obtain ⟨ad325, e325, hx325_0⟩ := tI HR0.out x5_1 p325 q325
       cases e325
       replace p325 := eq_true p325; replace q325 := eq_true q325
       have p326 : 0 ≤ (x5_1 : Int) := zd
       have q326 : x5_1 < (l1.length : Int) := zd
       obtain ⟨ad326, e326, hx326_0⟩ := tI HR1.out x5_1 p326 q326
       cases e326
       replace p326 := eq_true p326; replace q326 := eq_true q326
       go_wp2
       repeat (go_quiet (fail); try go_wp2)
       go_ret
       exact ⟨by first | rfl | (simp; done) | (simp [*]; done), by repeat (first | exact Drawn0.refl _ | apply Drawn0.step)⟩
      rw [if_neg c6] at H
      exact absurd H (by simp)
     rw [if_neg c5] at H
     exact absurd H (by simp)
    rw [if_neg c4] at H; have c4b0 := dF c4; clear c4; obtain rfl := sI H
    go_wp2
    repeat (go_quiet (fail); try go_wp2)
    go_ret
    exact ⟨by first | rfl | (simp; done) | (simp [*]; done), by repeat (first | exact Drawn0.refl _ | apply Drawn0.step)⟩
 rw [if_neg c3] at H
 have c3b0 : ((l0.length : Int) == (l1.length : Int)) = false := beq_eq_false_iff_ne.mpr c3
 have c3b1 : ((l0.length : Int) != (l1.length : Int)) = true := bne_iff_ne.mpr c3
 have c3b2 : (l0.length == l1.length) = false := by first | simpa using c3 | (simp at c3 ⊢; omega)
 obtain rfl := sI H
 go_enter Tryz.func31, Tryz.ntmps31
 go_wp2
 repeat (go_quiet (fail); try go_wp2)
 go_ret
 exact ⟨by first | rfl | (simp; done) | (simp [*]; done), by repeat (first | exact Drawn0.refl _ | apply Drawn0.step)⟩

/-! ### laws_sameMap: function 9 -/
def laws_sameMap.f (k : Nat) (l0_0 : List Int) (l0_1 : List Int) (l1_0 : List Int) (l1_1 : List Int) : Option (Bool) := (laws_sameInts.f k l0_0 l1_0).bind fun t329 => (if t329 = true then ((laws_sameInts.f k l0_1 l1_1).bind fun t330 => (some t330)) else (some false))
set_option maxHeartbeats 8000000 in
set_option maxRecDepth 100000 in
theorem laws_sameMap.calls (k : Nat) (A0_0 : Option Addr) (c0_0 : Nat) (l0_0 : List Int) (A0_1 : Option Addr) (c0_1 : Nat) (l0_1 : List Int) (A1_0 : Option Addr) (c1_0 : Nat) (l1_0 : List Int) (A1_1 : Option Addr) (c1_1 : Nat) (l1_1 : List Int) (r : Bool) (w : World) (hr0_0 : Kd.C (Kd.int .i64) w A0_0 l0_0.length l0_0) (hc0_0 : l0_0.length ≤ c0_0) (hr0_1 : Kd.C (Kd.int .i64) w A0_1 l0_1.length l0_1) (hc0_1 : l0_1.length ≤ c0_1) (hr1_0 : Kd.C (Kd.int .i64) w A1_0 l1_0.length l1_0) (hc1_0 : l1_0.length ≤ c1_0) (hr1_1 : Kd.C (Kd.int .i64) w A1_1 l1_1.length l1_1) (hc1_1 : l1_1.length ≤ c1_1) (h : laws_sameMap.f k l0_0 l0_1 l1_0 l1_1 = some r) :
    Calls Tryz.prog 9 #[.agg #[.slice A0_0 l0_0.length c0_0, .slice A0_1 l0_1.length c0_1], .agg #[.slice A1_0 l1_0.length c1_0, .slice A1_1 l1_1.length c1_1]] w fun e w' => e = .returned (.bool r) ∧ Below w.heap.size w w' := by
 have hu25 := Tryz.underlying25; have HR0_0 := A0_ hr0_0; have HC0_0 := A0_ hc0_0; clear hr0_0 hc0_0; have HR0_1 := A0_ hr0_1; have HC0_1 := A0_ hc0_1; clear hr0_1 hc0_1; have HR1_0 := A0_ hr1_0; have HC1_0 := A0_ hc1_0; clear hr1_0 hc1_0; have HR1_1 := A0_ hr1_1; have HC1_1 := A0_ hc1_1; clear hr1_1 hc1_1
 have HB := A0_ (Below.refl w.heap.size w)
 have H : ((laws_sameInts.f k l0_0 l1_0).bind fun t329 => (if t329 = true then ((laws_sameInts.f k l0_1 l1_1).bind fun t330 => (some t330)) else (some false))) = some r := h
 clear h; obtain ⟨t329, A3, H⟩ := zbind H
 by_cases c4 : t329 = true
 ·subst c4
  rw [if_pos rfl] at H; obtain ⟨t330, A5, H⟩ := zbind H; obtain rfl := sI H
  go_enter Tryz.func9, Tryz.ntmps9
  go_wp2_with (first | ((with_reducible refine gD (N := 2) rfl ?_); refine zX (N := 2) (cs := #[.slice A0_0 l0_0.length c0_0, .slice A0_1 l0_1.length c0_1]) (t := 25) ?_; intro gb327 hg w6 hbox hb; have BK327 := A0_ (hbox); have GW327 := zG hg HB; have GE327 := zG hg HB; replace HB := zB HB hb; clear hb hbox hg) | ((with_reducible refine gD (N := 3) rfl ?_); refine zX (N := 3) (cs := #[.slice A1_0 l1_0.length c1_0, .slice A1_1 l1_1.length c1_1]) (t := 25) ?_; intro gb328 hg w7 hbox hb; have BK328 := A0_ (hbox); have GW328 := zG hg HB; have GE328 := zG hg HB; replace HB := zB HB hb; have NB327_328 := zL hg BK327; have NB328_327 := zM hg BK327; replace BK327 := zK BK327 hb; clear hb hbox hg; have hnb8 := NB327_328.out; have hnc8 := NB328_327.out; have hcz9_0 := zc0 BK327; have hcz9_1 := zc1 BK327; have hfz9_0 := kF BK327.out 0; have hfz9_1 := kF BK327.out 1; have hcz10_0 := zc0 BK328; have hcz10_1 := zc1 BK328; have hfz10_0 := kF BK328.out 0; have hfz10_1 := kF BK328.out 1) | ((with_reducible refine gC (f := 31) rfl ?_); refine zJ (some 9) Tryz.func31 #[.slice A0_0 l0_0.length c0_0, .slice A1_0 l1_0.length c1_0] ?_; (with_reducible refine (laws_sameInts.calls k _ _ l0_0 _ _ l1_0 true _ ?side1 ?side2 ?side3 ?side4 A3.out).mono ?_); (case side1 => exact zC HR0_0 HB); (case side2 => exact HC0_0.out); (case side3 => exact zC HR1_0 HB); (case side4 => exact HC1_0.out); rintro e w' ⟨rfl, ⟨nd, rfl⟩⟩; refine ⟨_, rfl, ?_⟩) | (go_at_call 31; (with_reducible refine (laws_sameInts.calls k _ _ l0_1 _ _ l1_1 t330 _ ?side1 ?side2 ?side3 ?side4 A5.out).mono ?_); (case side1 => repeat (first | exact (cB HR0_1.out (zB_ HB)) | (with_reducible refine cA ?_ _) | (with_reducible refine cN ?_ _) | (with_reducible refine cD ?_))); (case side2 => exact HC0_1.out); (case side3 => repeat (first | exact (cB HR1_1.out (zB_ HB)) | (with_reducible refine cA ?_ _) | (with_reducible refine cN ?_ _) | (with_reducible refine cD ?_))); (case side4 => exact HC1_1.out); rintro e w' ⟨rfl, ⟨nd, rfl⟩⟩))
  go_ret
  exact ⟨by first | rfl | (simp [*] <;> rfl), zB_ HB⟩
 replace c4 := Bool.eq_false_iff.mpr c4; subst c4
 rw [if_neg (show ¬ (false = true) by decide)] at H
 obtain rfl := sI H
 go_enter Tryz.func9, Tryz.ntmps9
 go_wp2_with (first | ((with_reducible refine gD (N := 2) rfl ?_); refine zX (N := 2) (cs := #[.slice A0_0 l0_0.length c0_0, .slice A0_1 l0_1.length c0_1]) (t := 25) ?_; intro gb327 hg w11 hbox hb; have BK327 := A0_ (hbox); have GW327 := zG hg HB; have GE327 := zG hg HB; replace HB := zB HB hb; clear hb hbox hg) | ((with_reducible refine gD (N := 3) rfl ?_); refine zX (N := 3) (cs := #[.slice A1_0 l1_0.length c1_0, .slice A1_1 l1_1.length c1_1]) (t := 25) ?_; intro gb328 hg w12 hbox hb; have BK328 := A0_ (hbox); have GW328 := zG hg HB; have GE328 := zG hg HB; replace HB := zB HB hb; have NB327_328 := zL hg BK327; have NB328_327 := zM hg BK327; replace BK327 := zK BK327 hb; clear hb hbox hg; have hnb13 := NB327_328.out; have hnc13 := NB328_327.out; have hcz14_0 := zc0 BK327; have hcz14_1 := zc1 BK327; have hfz14_0 := kF BK327.out 0; have hfz14_1 := kF BK327.out 1; have hcz15_0 := zc0 BK328; have hcz15_1 := zc1 BK328; have hfz15_0 := kF BK328.out 0; have hfz15_1 := kF BK328.out 1) | ((with_reducible refine gC (f := 31) rfl ?_); refine zJ (some 9) Tryz.func31 #[.slice A0_0 l0_0.length c0_0, .slice A1_0 l1_0.length c1_0] ?_; (with_reducible refine (laws_sameInts.calls k _ _ l0_0 _ _ l1_0 false _ ?side1 ?side2 ?side3 ?side4 A3.out).mono ?_); (case side1 => exact zC HR0_0 HB); (case side2 => exact HC0_0.out); (case side3 => exact zC HR1_0 HB); (case side4 => exact HC1_0.out); rintro e w' ⟨rfl, ⟨nd, rfl⟩⟩; refine ⟨_, rfl, ?_⟩))
 go_ret
 exact ⟨by first | rfl | (simp [*] <;> rfl), zB_ HB⟩

/-! ### impl_cyclesOf: function 81 -/
mutual
def impl_cyclesOf.l0 : Nat → List Int → List (List Int) → List Bool → Int → Int → Option ((List (List Int)))
  | 0, _, _, _, _, _ => none
  | k + 1, x0, x3, x4, x13, x14 => if x14 < x13 then (impl_cyclesOf.l1 k x0 x3 x4 (([] : List Int)) x14 x13 x14) else (some x3)
def impl_cyclesOf.l1 : Nat → List Int → List (List Int) → List Bool → List Int → Int → Int → Int → Option ((List (List Int)))
  | 0, _, _, _, _, _, _, _ => none
  | k + 1, x0, x3, x4, x6, x7, x13, x14 => if 0 ≤ x7 then (if x7 < (x4.length : Int) then (if rdOf false x4 x7 = true then (if (x6.length : Int) > 0 then (if x3.length < 5864062014805 then (impl_cyclesOf.l0 k x0 (x3 ++ [x6]) x4 x13 (wrap64 (x14 + 1))) else (none)) else (impl_cyclesOf.l0 k x0 x3 x4 x13 (wrap64 (x14 + 1)))) else (if x6.length < 17592186044416 then (if x7 < (x0.length : Int) then (impl_cyclesOf.l1 k x0 x3 (x4.set (x7 : Int).toNat true) (x6 ++ [x7]) (rd x0 x7) x13 x14) else (none)) else (none))) else (none)) else (none)
end
def impl_cyclesOf.f (k : Nat) (l0 : List Int) : Option ((List (List Int))) := if 0 ≤ (l0.length : Int) then (if ((l0.length : Int) : Int).toNat ≤ 281474976710656 then (impl_cyclesOf.l0 k l0 (([] : List (List Int))) (List.replicate ((l0.length : Int) : Int).toNat false) (l0.length : Int) 0) else (none)) else (none)
set_option maxHeartbeats 8000000 in
set_option maxRecDepth 100000 in
theorem impl_cyclesOf.calls (k : Nat) (A0 : Option Addr) (c0 : Nat) (l0 : List Int) (r : List (List Int)) (w : World) (hr0 : Kd.C (Kd.int .i64) w A0 l0.length l0) (hc0 : l0.length ≤ c0) (h : impl_cyclesOf.f k l0 = some r) :
    Calls Tryz.prog 81 #[.slice A0 l0.length c0] w fun e w' => ∃ v0_ : Value, e = .returned (v0_) ∧ Kd.S (Kd.slice 3 (Kd.int .i64)) 23 w' w.heap.size (fun _ => True) v0_ r ∧ Below w.heap.size w w' := by
 have HR0 := A0_ hr0; have HC0 := A0_ hc0; clear hr0 hc0
 have HB := A0_ (Below.refl w.heap.size w)
 have H : (if 0 ≤ (l0.length : Int) then (if ((l0.length : Int) : Int).toNat ≤ 281474976710656 then (impl_cyclesOf.l0 k l0 (([] : List (List Int))) (List.replicate ((l0.length : Int) : Int).toNat false) (l0.length : Int) 0) else (none)) else (none)) = some r := h
 clear h
 obtain ⟨y331, hy331⟩ : ∃ y_ : List (List Int), y_ = (([] : List (List Int))) := ⟨_, rfl⟩
 replace H : (if 0 ≤ (l0.length : Int) then (if ((l0.length : Int) : Int).toNat ≤ 281474976710656 then (impl_cyclesOf.l0 k l0 y331 (List.replicate ((l0.length : Int) : Int).toNat false) (l0.length : Int) 0) else (none)) else (none)) = some r := zH hy331 H
 have Ny331 := A0_ hy331; clear hy331
 by_cases c2 : 0 ≤ (l0.length : Int)
 ·rw [if_pos c2] at H
  have c2b0 := eq_true c2; have c2b1 := dT c2; clear c2
  by_cases c3 : ((l0.length : Int) : Int).toNat ≤ 281474976710656
  ·rw [if_pos c3] at H
   have c3b0 := eq_true c3; have c3b1 := dT c3; clear c3
   obtain ⟨y334, hy334⟩ : ∃ y_ : List Bool, y_ = (List.replicate ((l0.length : Int) : Int).toNat false) := ⟨_, rfl⟩
   replace H : (impl_cyclesOf.l0 k l0 y331 y334 (l0.length : Int) 0) = some r := zH hy334 H
   have Ny334 := A0_ hy334; clear hy334; have H' := A0_ H; clear H
   go_enter Tryz.func81, Tryz.ntmps81
   go_wp2_with (first | ((with_reducible refine gD (N := 8) rfl ?_); refine Kd.S_lit (Kd.slice 3 (Kd.int .i64)) _ 23 ?hg (N := 8) ?hd (xs := ([] : List (List Int))) (inner := []) (ok := fun _ => True) (okp := fun _ => True) ?hr ?hp (fun _ hk => hk) trivial (Below.refl _ _) (Nat.le_refl _) (by simp) ?_; (case hd => rfl); (case hg => rfl); (case hr => first | (go_simp; done) | (go_simp; rfl)); (case hp => exact (Reps.none _ _)); intro v332 w4 ho5 hb hg_ hnew_; clear hg_ hnew_; (first | rw [← Ny331.out] at ho5 | (simp only [Int.reduceToNat] at ho5; rw [← Ny331.out] at ho5)); have HO333 := A0_ (Kd.S_lower ho5 (bZ (zB_ HB))); replace HB := zB HB hb; clear hb ho5) | ((with_reducible refine gD (N := 11) rfl ?_); refine Kd.R_make Kd.bool _ 4 rfl (N := 11) rfl 97 _ _ rfl (l0.length : Int) rfl rfl Tryz.underlying97 (.bool false) 1 info4 rfl (by decide) (by omega) false (ok := fun _ => True) (okp := fun _ => True) rfl (fun _ hk => hk) trivial (zd) (Nat.le_trans (Nat.mul_le_mul_right _ (zd : (l0.length : Int).toNat ≤ 281474976710656)) (by omega)) (Below.refl _ _) (Nat.le_refl _) ?_; intro v335 w6 ho7 hb hg_ hnew_; clear hg_ hnew_; (first | rw [← Ny334.out] at ho7 | (simp only [Int.reduceToNat] at ho7; rw [← Ny334.out] at ho7)); replace HO333 := zS HO333 hb; have HO336 := A0_ (rL ho7 (bZ (zB_ HB))); replace HB := zB HB hb; clear hb ho7))
   go_loopg [3, 14] k (fun kq v3 v14 w' => ∃ (x3_1 : List (List Int)) (x4_1 : List Bool) (x14_1 : Int), v14 = .int .i64 x14_1 ∧ Aside0 (impl_cyclesOf.l0 kq l0 x3_1 x4_1 (l0.length : Int) x14_1 = some r) ∧ Aside0 (kq ≤ k) ∧ Aside0 (Kd.S (Kd.slice 3 (Kd.int .i64)) 23 w' w.heap.size (fun _ => True) v3 x3_1) ∧ Aside0 (Kd.R Kd.bool 4 w' w.heap.size (fun _ => True) v335 x4_1) ∧ Aside0 (Below w.heap.size w w'))
   case atStart => exact ⟨(y331), (y334), (0), zt, H', ⟨Nat.le_refl _⟩, ⟨zS_ HO333⟩, ⟨zR_ HO336⟩, ⟨zB_ HB⟩⟩
   case round =>
    clear H'; (try clear c2); (try clear c2b0); (try clear c2b1); (try clear p2); (try clear c3); (try clear c3b0); (try clear c3b1); obtain ⟨x3_1, x4_1, x14_1, rfl, HA, HK1, HO_3, HO_4, HB⟩ := hrel
    cases gk with
    | zero => exact absurd HA.out (by simp [impl_cyclesOf.l0])
    | succ k1 =>
     have H := HA.out; clear HA; simp only [impl_cyclesOf.l0] at H
     by_cases c8 : x14_1 < (l0.length : Int)
     ·rw [if_pos c8] at H
      have c8b0 := dT c8; clear c8
      obtain ⟨y337, hy337⟩ : ∃ y_ : List Int, y_ = (([] : List Int)) := ⟨_, rfl⟩
      replace H : (impl_cyclesOf.l1 k1 l0 x3_1 x4_1 y337 x14_1 (l0.length : Int) x14_1) = some r := zH hy337 H
      have Ny337 := A0_ hy337; clear hy337; have H' := A0_ H; clear H
      go_wp2_with (first | ((with_reducible refine gD (N := 17) rfl ?_); refine Kd.R_lit (Kd.int .i64) _ 3 ?hg (N := 17) ?hd (xs := ([] : List Int)) (inner := []) (ok := fun _ => True) (okp := fun _ => True) ?hr ?hp (fun _ hk => hk) trivial (Below.refl _ _) (Nat.le_refl _) (by simp) ?_; (case hd => rfl); (case hg => rfl); (case hr => first | (go_simp; done) | (go_simp; rfl)); (case hp => exact (Reps.none _ _)); intro v338 w9 ho10 hb hg_ hnew_; clear hg_ hnew_; (first | rw [← Ny337.out] at ho10 | (simp only [Int.reduceToNat] at ho10; rw [← Ny337.out] at ho10)); replace HO_3 := A0_ (Kd.S_elder' (zS_ HO_3) (Kd.R_base ho10) hb); replace HO_4 := zR HO_4 hb; have HO339 := A0_ (rL ho10 (bZ (zB_ HB))); replace HB := zB HB hb; clear hb ho10))
      go_loopg [6, 7] k1 (fun kq v6 v7 w' => ∃ (x4_2 : List Bool) (x6_2 : List Int) (x7_2 : Int), v7 = .int .i64 x7_2 ∧ Aside0 (impl_cyclesOf.l1 kq l0 x3_1 x4_2 x6_2 x7_2 (l0.length : Int) x14_1 = some r) ∧ Aside0 (kq ≤ k1) ∧ Aside0 (Kd.S (Kd.slice 3 (Kd.int .i64)) 23 w' w.heap.size (fun k_ => some k_ ≠ (v6 : Value).ownBlock) u3 x3_1) ∧ Aside0 (Kd.R Kd.bool 4 w' w.heap.size (fun _ => True) v335 x4_2) ∧ Aside0 (Kd.R (Kd.int .i64) 3 w' w.heap.size (fun _ => True) v6 x6_2) ∧ Aside0 (Below w.heap.size w w'))
      case atStart => exact ⟨(x4_1), (y337), (x14_1), zt, H', ⟨Nat.le_refl _⟩, ⟨zmS HO_3 (fun _ hk => hk.2)⟩, ⟨zR_ HO_4⟩, ⟨zR_ HO339⟩, ⟨zB_ HB⟩⟩
      case round =>
       clear H'; (try clear c2); (try clear c2b0); (try clear c2b1); (try clear p2); (try clear c3); (try clear c3b0); (try clear c3b1); (try clear c8); (try clear c8b0); (try clear p2); obtain ⟨x4_2, x6_2, x7_2, rfl, HA, HK2, HO_3, HO_4, HO_6, HB⟩ := hrel
       cases gk with
       | zero => exact absurd HA.out (by simp [impl_cyclesOf.l1])
       | succ k2 =>
        have H := HA.out; clear HA; simp only [impl_cyclesOf.l1] at H
        by_cases c11 : 0 ≤ x7_2
        ·rw [if_pos c11] at H
         have c11b0 := dT c11; clear c11
         by_cases c12 : x7_2 < (x4_2.length : Int)
         ·rw [if_pos c12] at H
          have c12b0 := dT c12; clear c12
          obtain ⟨bq13, hbq13⟩ : ∃ b_ : Bool, b_ = (rdOf false x4_2 x7_2) := ⟨_, rfl⟩
          replace H : (if bq13 = true then (if (x6_2.length : Int) > 0 then (if x3_1.length < 5864062014805 then (impl_cyclesOf.l0 k2 l0 (x3_1 ++ [x6_2]) x4_2 (l0.length : Int) (wrap64 (x14_1 + 1))) else (none)) else (impl_cyclesOf.l0 k2 l0 x3_1 x4_2 (l0.length : Int) (wrap64 (x14_1 + 1)))) else (if x6_2.length < 17592186044416 then (if x7_2 < (l0.length : Int) then (impl_cyclesOf.l1 k2 l0 x3_1 (x4_2.set (x7_2 : Int).toNat true) (x6_2 ++ [x7_2]) (rd l0 x7_2) (l0.length : Int) x14_1) else (none)) else (none))) = some r := by rw [← hbq13] at H; exact H
          have Nbq13 := A0_ hbq13; clear hbq13
          by_cases c14 : bq13 = true
          ·subst c14
           rw [if_pos rfl] at H
           by_cases c15 : (x6_2.length : Int) > 0
           ·rw [if_pos c15] at H
            have c15b0 : decide (0 < (x6_2.length : Int)) = true := dT c15
            have c15b1 : decide (0 < x6_2.length) = true := dT (by omega)
            clear c15
            by_cases c16 : x3_1.length < 5864062014805
            ·rw [if_pos c16] at H
             have LMc16 := A0_ c16; clear c16
             obtain ⟨y341, hy341⟩ : ∃ y_ : List (List Int), y_ = (x3_1 ++ [x6_2]) := ⟨_, rfl⟩
             replace H : (impl_cyclesOf.l0 k2 l0 y341 x4_2 (l0.length : Int) (wrap64 (x14_1 + 1))) = some r := zH hy341 H
             have Ny341 := A0_ hy341; clear hy341; have H' := A0_ H; clear H; obtain ⟨Ao17, co17, eo17⟩ := rS HO_4.out; subst eo17
             have p340 : 0 ≤ (x7_2 : Int) := zd
             have q340 : x7_2 < (x4_2.length : Int) := zd
             obtain ⟨ad340, e340, hx340_0⟩ := Kd.at_bool (rR HO_4.out).2.2 x7_2 p340 q340
             (try rw [← Nbq13.out] at hx340_0)
             cases e340
             replace p340 := eq_true p340; replace q340 := eq_true q340; obtain ⟨Ao18, co18, eo18⟩ := rS HO_6.out; subst eo18
             go_wp2_with (first | ((with_reducible refine gB (b := .append) (xs := #[.tmp 38, .tmp 40]) rfl ?_); at_builtin; refine Kd.S_append (Kd.slice 3 (Kd.int .i64)) (w0 := w) w.heap.size rfl (.tmp 38) (.tmp 40) 68 23 (.slice none 0 0) 24 rfl Tryz.underlying68 info23 rfl (by decide) (by omega) u3 x3_1 x6_2 [.slice Ao18 x6_2.length co18] (fun _ => True) (fun k_ => some k_ = (.slice Ao18 x6_2.length co18 : Value).ownBlock) rfl rfl ?aP (fun k_ hk_ => ((rM (ok' := fun k_ => ((fun _ => True)) k_ ∧ some k_ ≠ (u3 : Value).ownBlock) (Kd.R_apart' (HO_6.out) (Kd.S_typed HO_3.out) (by decide)) (fun k_ hk => ⟨trivial, hk.2⟩))).1 k_ hk_.symm) ?aF ?aO ?aB ?aS ?aL ?_; (case aP => exact Kd.M_row (rM (Kd.R_tight rfl (rM (ok' := fun k_ => ((fun _ => True)) k_ ∧ some k_ ≠ (u3 : Value).ownBlock) (Kd.R_apart' (HO_6.out) (Kd.S_typed HO_3.out) (by decide)) (fun k_ hk => ⟨trivial, hk.2⟩))) (fun _ h_ => h_))); (case aB => exact (zB_ HB)); (case aF => exact (fun _ _ => trivial)); (case aO => exact (zmS HO_3 (fun k_ hk => ⟨trivial, fun e_ => hk e_⟩))); (case aS => exact (bZ (zB_ HB))); (case aL => have := LMc16.out; omega); intro v342 w19 ho hb hg hat; rw [← Ny341.out] at ho; replace HO_4 := A0_ (Kd.R_over' (zR_ HO_4) (Kd.S_typed (zS_ HO_3)) (by decide) hg); replace HB := A0_ (hb); have HO343 := A0_ (ho); clear HO_3 HO_6 ho hb hg hat))
             go_roundg k2
             case measure => have := HK1.out; have := HK2.out; omega
             case rel => exact ⟨(y341), (x4_2), (wrap64 (x14_1 + 1)), zt, H', ⟨by have := HK1.out; have := HK2.out; omega⟩, ⟨zS_ HO343⟩, ⟨zR_ HO_4⟩, ⟨zB_ HB⟩⟩
            rw [if_neg c16] at H
            exact absurd H (by simp)
           rw [if_neg c15] at H
           have c15b0 : decide (0 < (x6_2.length : Int)) = false := dF c15
           have c15b1 : decide (0 < x6_2.length) = false := dF (by omega)
           clear c15; have H' := A0_ H; clear H; obtain ⟨Ao20, co20, eo20⟩ := rS HO_4.out; subst eo20
           have p340 : 0 ≤ (x7_2 : Int) := zd
           have q340 : x7_2 < (x4_2.length : Int) := zd
           obtain ⟨ad340, e340, hx340_0⟩ := Kd.at_bool (rR HO_4.out).2.2 x7_2 p340 q340
           (try rw [← Nbq13.out] at hx340_0)
           cases e340
           replace p340 := eq_true p340; replace q340 := eq_true q340; obtain ⟨Ao21, co21, eo21⟩ := rS HO_6.out; subst eo21
           go_wp2
           go_roundg k2
           case measure => have := HK1.out; have := HK2.out; omega
           case rel => exact ⟨(x3_1), (x4_2), (wrap64 (x14_1 + 1)), zt, H', ⟨by have := HK1.out; have := HK2.out; omega⟩, ⟨zmS HO_3 (fun _ hk => trivial)⟩, ⟨zR_ HO_4⟩, ⟨zB_ HB⟩⟩
          replace c14 := Bool.eq_false_iff.mpr c14; subst c14
          rw [if_neg (show ¬ (false = true) by decide)] at H
          obtain ⟨y344, hy344⟩ : ∃ y_ : List Bool, y_ = (x4_2.set (x7_2 : Int).toNat true) := ⟨_, rfl⟩
          replace H : (if x6_2.length < 17592186044416 then (if x7_2 < (l0.length : Int) then (impl_cyclesOf.l1 k2 l0 x3_1 y344 (x6_2 ++ [x7_2]) (rd l0 x7_2) (l0.length : Int) x14_1) else (none)) else (none)) = some r := zH hy344 H
          have Ny344 := A0_ hy344; clear hy344
          by_cases c23 : x6_2.length < 17592186044416
          ·rw [if_pos c23] at H
           have LMc23 := A0_ c23; clear c23
           obtain ⟨y345, hy345⟩ : ∃ y_ : List Int, y_ = (x6_2 ++ [x7_2]) := ⟨_, rfl⟩
           replace H : (if x7_2 < (l0.length : Int) then (impl_cyclesOf.l1 k2 l0 x3_1 y344 y345 (rd l0 x7_2) (l0.length : Int) x14_1) else (none)) = some r := zH hy345 H
           have Ny345 := A0_ hy345; clear hy345
           by_cases c24 : x7_2 < (l0.length : Int)
           ·rw [if_pos c24] at H
            have c24b0 := dT c24; clear c24; have H' := A0_ H; clear H; obtain ⟨Ao25, co25, eo25⟩ := rS HO_4.out; subst eo25
            have p340 : 0 ≤ (x7_2 : Int) := zd
            have q340 : x7_2 < (x4_2.length : Int) := zd
            obtain ⟨ad340, e340, hx340_0⟩ := Kd.at_bool (rR HO_4.out).2.2 x7_2 p340 q340
            (try rw [← Nbq13.out] at hx340_0)
            cases e340
            replace p340 := eq_true p340; replace q340 := eq_true q340
            have p22 : 0 ≤ (x7_2 : Int) := zd
            have q22 : (x7_2 : Int) < ((x4_2.length : Int) : Int) := zd
            obtain ⟨go22, co22, eo22, gb22, gl22, cl22, HG22⟩ := Kd.R_form HO_4.out (by omega)
            (first | cases eo22 | (injection eo22 with ea_ en_ ec_; (first | subst ea_ | (injection ea_ with ea_; subst ea_)); subst ec_; clear en_))
            have GB22 := A0_ gb22; have GG22 := A0_ HG22; clear gb22 gl22 HG22
            (first | simp only [add_plain] at hx340_0 | skip)
            obtain ⟨hx22_0, hf22_0⟩ := Kd.R_celln false HO_4.out (x7_2 : Int) p22 q22
            replace p22 := eq_true p22; replace q22 := eq_true q22
            have HP26 := Kd.R_putg HO_4.out (x7_2 : Int) true
            go_wp2_with (first | ((with_reducible refine gS (t := 4) (p := 30) rfl ?_); refine store_event (t := 4) (p := 30) (v := ?vo_w27) (w1 := (wr.setCell ⟨go22, (x7_2 : Int).toNat, none⟩ (.bool true))) ?hg ?ho ?hn ?hr ?_; (case ho => rfl); (case hg => rfl); (case hn => rfl); (case hr => first | (go_simp; done) | (go_simp; rfl)); intro w27 hw; have hg : wr.grownBy w27 (some go22) := (by rw [hw]; exact HP26.2); have hp_ : Kd.R Kd.bool 4 w27 w.heap.size (fun _ => True) (.slice (some ⟨go22, 0, none⟩) x4_2.length co25) y344 := (by rw [hw, Ny344.out]; exact HP26.1); clear HP26; replace HO_3 := A0_ (Kd.S_over' (v := (.slice (some ⟨go22, 0, none⟩) x4_2.length co25)) (zS_ HO_3) (Kd.R_typed HO_4.out) (by decide) hg); replace HO_6 := A0_ (Kd.R_over' (v := (.slice (some ⟨go22, 0, none⟩) x4_2.length co25)) (zR_ HO_6) (Kd.R_typed HO_4.out) (by decide) hg); replace HO_4 := A0_ (hp_); replace HB := A0_ ((by rw [hw]; exact bS (HB.out) GB22.out : Below w.heap.size w w27)); clear hg hw hp_) | ((with_reducible refine gB (b := .append) (xs := #[.tmp 31, .tmp 33]) rfl ?_); at_builtin; refine Kd.R_append (Kd.int .i64) (w0 := w) w.heap.size rfl (.tmp 31) (.tmp 33) 23 3 (.int .i64 0) 8 rfl Tryz.underlying23 info3 rfl (by decide) (by omega) u6 x6_2 x7_2 [.int .i64 x7_2] (fun _ => True) (fun _ => False) rfl rfl ?aP (fun _ hk => hk.elim) ?aF ?aO ?aB ?aS ?aL ?_; (case aP => exact rfl); (case aB => exact (zB_ HB)); (case aF => exact (fun _ _ => trivial)); (case aO => exact (zR_ HO_6)); (case aS => exact (bZ (zB_ HB))); (case aL => have := LMc23.out; omega); intro v346 w28 ho hb hg hat; rw [← Ny345.out] at ho; replace HO_3 := A0_ (Kd.S_after (ok := (fun _ => True)) (zmS HO_3 (fun _ hk => ⟨trivial, hk⟩)) hg hat); replace HO_4 := A0_ (Kd.R_over' (zR_ HO_4) (Kd.R_typed (zR_ HO_6)) (by decide) hg); replace HB := A0_ (hb); have HO347 := A0_ (ho); clear HO_6 ho hb hg hat; have p348 : 0 ≤ (x7_2 : Int) := zd; have q348 : x7_2 < (l0.length : Int) := zd; obtain ⟨ad348, e348, hx348_0⟩ := tI HR0.out x7_2 p348 q348; cases e348; try replace hx348_0 := (HB.out.cell (wL w _ hx348_0)).trans hx348_0; replace p348 := eq_true p348; replace q348 := eq_true q348))
            go_roundg k2
            case measure => have := HK1.out; have := HK2.out; omega
            case rel => exact ⟨(y344), (y345), (rd l0 x7_2), zt, H', ⟨by have := HK1.out; have := HK2.out; omega⟩, ⟨zmS HO_3 (fun _ hk => hk.2)⟩, ⟨zR_ HO_4⟩, ⟨zR_ HO347⟩, ⟨zB_ HB⟩⟩
           rw [if_neg c24] at H
           exact absurd H (by simp)
          rw [if_neg c23] at H
          exact absurd H (by simp)
         rw [if_neg c12] at H
         exact absurd H (by simp)
        rw [if_neg c11] at H
        exact absurd H (by simp)
     rw [if_neg c8] at H; have c8b0 := dF c8; clear c8; obtain rfl := sI H
     go_wp2
     go_ret
     exact ⟨_, by first | rfl | (simp [*] <;> rfl), zS_ HO_3, zB_ HB⟩
  rw [if_neg c3] at H
  exact absurd H (by simp)
 rw [if_neg c2] at H
 exact absurd H (by simp)

/-! ### impl_PermText: function 37 -/
def impl_PermText.sg (i : Int) : ByteArray := if i = 0 then ⟨#[40]⟩ else ⟨#[44]⟩
def impl_PermText.dg (n : Int) : ByteArray := ⟨(Lib.decDigits n.toNat).toArray⟩
def impl_PermText.inner : Int → List Int → Option ByteArray
  | _, [] => some ⟨#[]⟩
  | i, n :: c => if 0 ≤ n ∧ n < 100 then (impl_PermText.inner (i + 1) c).bind fun t => some ((impl_PermText.sg i ++ impl_PermText.dg n) ++ t) else none
def impl_PermText.outer : List (List Int) → Option ByteArray
  | [] => some ⟨#[]⟩
  | c :: cs => if c.length < 2 then impl_PermText.outer cs else (impl_PermText.inner 0 c).bind fun t => (impl_PermText.outer cs).bind fun u => some (t ++ (⟨#[41]⟩ ++ u))
def impl_PermText.f (k : Nat) (l0 : List Int) : Option ByteArray := (impl_PermValid.f l0).bind fun ok => (if ok = true then (impl_cyclesOf.f k l0).bind fun cs => (impl_PermText.outer cs).bind fun t => (if t.size ≤ 100000 ∧ cs.length ≤ 1000 ∧ ∀ c ∈ cs, c.length ≤ 1000 then (if t.size = 0 then some ⟨#[40, 41]⟩ else some t) else none) else some ⟨#[]⟩)
theorem impl_PermText.sg_size (i : Int) : (impl_PermText.sg i).size = 1 := by unfold impl_PermText.sg; split <;> rfl
theorem impl_PermText.dg_size (n : Int) (h : n < 100) : (impl_PermText.dg n).size ≤ 2 := XE.digits_size _ (by omega)
theorem impl_PermText.rows_others {w w' : World} {B o : Nat} {v : Value} {xs : List (List Int)} (h : Kd.S (Kd.slice 3 (Kd.int .i64)) 23 w B (fun _ => True) v xs) (ho : ∃ c, w.heap[o]? = some (.cells c 52 (0, 0))) (hk : Lib.OthersKept 5 (some o) w w') : Kd.S (Kd.slice 3 (Kd.int .i64)) 23 w' B (fun _ => True) v xs := by
  obtain ⟨co, ho⟩ := ho
  refine sM (Kd.S_step (Kd.S_bound h) (fun k ⟨_, _, _, q, hq, c, hc⟩ _ => ?_)) (fun _ _ => trivial)
  have hq' : q = 23 ∨ q = 3 := by simpa [Kd.slice, Kd.int, Kd.scalar] using hq
  rw [hk k _ hc ?_ ?_, hc]
  · intro e; obtain rfl := sI e; rw [ho] at hc; rcases hq' with rfl | rfl <;> simp at hc
  intro c' fz e; rcases hq' with rfl | rfl <;> simp at e
theorem impl_PermText.row_at {w : World} {A : Option Addr} {n : Nat} {xs : List (List Int)} (h : Kd.C (Kd.slice 3 (Kd.int .i64)) w A n xs) (i : Int) (h0 : 0 ≤ i) (h1 : i < n) : ∃ ad A0 c0, A = some ad ∧ w.cell? (ad.add i.toNat) = some (.slice A0 (xs.getD i.toNat []).length c0) ∧ (xs.getD i.toNat []).length ≤ c0 ∧ (Kd.int .i64).C w A0 (xs.getD i.toNat []).length (xs.getD i.toNat []) := by
  obtain ⟨ad, c, e, _, hK, hc0⟩ := Kd.C_get h ([] : List Int) i h0 h1
  have hc : ∀ j u, c[j]? = some u → w.cell? (ad.add (i.toNat * 1 + j)) = some u := hc0
  obtain ⟨A0, c0, rfl, l0, g0⟩ := hK
  exact ⟨ad, A0, c0, e, by have hq := hc 0 _ rfl; rwa [Nat.mul_one, Nat.add_zero] at hq, l0, g0⟩
/-- What holds at the head of a round of the outer loop. -/
def impl_PermText.RO (w : World) (B b : Nat) (v : Value) (cs : List (List Int)) (fin : ByteArray) (i : Int) (wr : World) : Prop :=
  0 ≤ i ∧ i ≤ cs.length ∧ ∃ o rest, impl_PermText.outer (cs.drop i.toNat) = some rest ∧ o ++ rest = fin ∧ Lib.IsBuilder 52 5 B b (Lib.strCells o) wr ∧ Kd.S (Kd.slice 3 (Kd.int .i64)) 23 wr b (fun _ => True) v cs ∧ Below w.heap.size w wr
def impl_PermText.RI (w : World) (B b : Nat) (v : Value) (cs : List (List Int)) (fin : ByteArray) (c : List Int) (rest : ByteArray) (p : Addr) (u : Value) (x : Int) (wr : World) : Prop :=
  wr.cell? p = some u ∧ 0 ≤ x ∧ x ≤ c.length ∧ ∃ o t, impl_PermText.inner x (c.drop x.toNat) = some t ∧ o ++ (t ++ (⟨#[41]⟩ ++ rest)) = fin ∧ Lib.IsBuilder 52 5 B b (Lib.strCells o) wr ∧ Kd.S (Kd.slice 3 (Kd.int .i64)) 23 wr b (fun _ => True) v cs ∧ Below w.heap.size w wr
theorem impl_PermText.outer_step {cs : List (List Int)} {i : Int} (h0 : 0 ≤ i) (h1 : i < cs.length) {rest : ByteArray} (h : impl_PermText.outer (cs.drop i.toNat) = some rest) :
    ((cs.getD i.toNat []).length < 2 ∧ impl_PermText.outer (cs.drop (i + 1).toNat) = some rest) ∨ (¬ (cs.getD i.toNat []).length < 2 ∧ ∃ t u, impl_PermText.inner 0 (cs.getD i.toNat []) = some t ∧ impl_PermText.outer (cs.drop (i + 1).toNat) = some u ∧ rest = t ++ (⟨#[41]⟩ ++ u)) := by
  have hi : i.toNat < cs.length := by omega
  rw [List.drop_eq_getElem_cons hi, show i.toNat + 1 = (i + 1).toNat by omega] at h
  have e : cs.getD i.toNat [] = cs[i.toNat] := by simp [List.getD, hi]
  rw [e]
  simp only [impl_PermText.outer] at h
  split at h
  · rename_i hl; exact .inl ⟨hl, h⟩
  rename_i hl
  obtain ⟨t, h1, h⟩ := Option.bind_eq_some_iff.1 h; obtain ⟨u, h2, h⟩ := Option.bind_eq_some_iff.1 h
  exact .inr ⟨hl, t, u, h1, h2, (sI h).symm⟩
theorem impl_PermText.inner_step {c : List Int} {x : Int} (h0 : 0 ≤ x) (h1 : x < c.length) {t : ByteArray} (h : impl_PermText.inner x (c.drop x.toNat) = some t) :
    0 ≤ rd c x ∧ rd c x < 100 ∧ ∃ u, impl_PermText.inner (x + 1) (c.drop (x + 1).toNat) = some u ∧ t = (impl_PermText.sg x ++ impl_PermText.dg (rd c x)) ++ u := by
  have hi : x.toNat < c.length := by omega
  rw [List.drop_eq_getElem_cons hi, show x.toNat + 1 = (x + 1).toNat by omega] at h
  have e : rd c x = c[x.toNat] := by simp [rd, List.getD, hi]
  simp only [impl_PermText.inner] at h
  rw [← e] at h
  split at h
  · rename_i hl
    obtain ⟨u, h2, h⟩ := Option.bind_eq_some_iff.1 h
    exact ⟨hl.1, hl.2, u, h2, (sI h).symm⟩
  cases h
theorem impl_PermText.cell_others {w w' : World} {B o n cc : Nat} {ad : Addr} {xs : List (List Int)} (h : Kd.S (Kd.slice 3 (Kd.int .i64)) 23 w B (fun _ => True) (.slice (some ad) n cc) xs) (hk : Lib.OthersKept 5 (some o) w w') (ho : ∃ c, w.heap[o]? = some (.cells c 52 (0, 0))) (j : Nat) : w'.cell? (ad.add j) = w.cell? (ad.add j) := by
  obtain ⟨co, ho⟩ := ho
  obtain ⟨g, rfl⟩ := Kd.R_head (Kd.S_R h)
  obtain ⟨c, hc⟩ := Kd.S_typed h g rfl
  rw [show (⟨g, 0, none⟩ : Addr).add j = ⟨g, j, none⟩ by simp [Addr.add] <;> exact fun h => h.symm]
  refine World.cell?_of_block ?_
  show w'.heap[g]? = w.heap[g]?
  refine (hk g _ hc ?_ ?_).trans hc.symm
  · intro e; obtain rfl := sI e; rw [ho] at hc; simp at hc
  intro c' fz e; simp at e
theorem impl_PermText.inner_nil (x : Int) : impl_PermText.inner x [] = some ⟨#[]⟩ := by unfold impl_PermText.inner; rfl
theorem impl_PermText.nil_app (x : ByteArray) : (⟨#[]⟩ : ByteArray) ++ x = x := by
  show ByteArray.empty ++ x = x
  simp
theorem impl_PermText.app_nil (x : ByteArray) : x ++ (⟨#[]⟩ : ByteArray) = x := by
  show x ++ ByteArray.empty = x
  simp
set_option maxHeartbeats 8000000 in
set_option maxRecDepth 100000 in
theorem impl_PermText.calls (k : Nat) (A0 : Option Addr) (c0 : Nat) (l0 : List Int) (r : ByteArray) (w : World) (hr0 : Kd.C (Kd.int .i64) w A0 l0.length l0) (hc0 : l0.length ≤ c0) (h : impl_PermText.f k l0 = some r) :
    Calls Tryz.prog 37 #[.slice A0 l0.length c0] w fun e w' => e = .returned (.string r) ∧ Below w.heap.size w w' := by
  unfold impl_PermText.f at h
  obtain ⟨ok, h1, hq⟩ := Option.bind_eq_some_iff.1 h; clear h
  have H1 := Lib.hid h1; clear h1
  have HR := A0_ hr0; have HC := A0_ hc0; clear hr0 hc0
  cases ok with
  | false =>
    obtain rfl : (⟨#[]⟩ : ByteArray) = r := by simpa using hq
    clear hq
    go_enter Tryz.func37, Tryz.ntmps37
    go_wp2_with (go_at_call 58; (with_reducible refine (impl_PermValid.calls A0 c0 l0 false _ HR.out HC.out H1.out).mono ?_); rintro e w1 ⟨rfl, hb1⟩)
    go_ret
    exact ⟨rfl, hb1⟩
  | true =>
    rw [if_pos rfl] at hq; obtain ⟨cs, h2, hs⟩ := Option.bind_eq_some_iff.1 hq; clear hq; obtain ⟨t, h3, h⟩ := Option.bind_eq_some_iff.1 hs; clear hs
    have hg : t.size ≤ 100000 ∧ cs.length ≤ 1000 ∧ ∀ c ∈ cs, c.length ≤ 1000 := by
      by_cases hg : t.size ≤ 100000 ∧ cs.length ≤ 1000 ∧ ∀ c ∈ cs, c.length ≤ 1000
      · exact hg
      rw [if_neg hg] at h; cases h
    rw [if_pos hg] at h; obtain ⟨hts, hcl, hcc⟩ := hg
    have HCC := A0_ hcc; clear hcc
    have H2 := Lib.hid h2; clear h2
    have H3 := Lib.hid h3; clear h3
    have HH := A0_ h; clear h
    go_enter Tryz.func37, Tryz.ntmps37
    go_wp2_with (first
      | (go_at_call 58; (with_reducible refine (impl_PermValid.calls A0 c0 l0 true _ HR.out HC.out H1.out).mono ?_); rintro e w1 ⟨rfl, hb1⟩)
      | (go_at_call 81; (with_reducible refine (impl_cyclesOf.calls k A0 c0 l0 cs _ (cA (cB HR.out hb1) _) HC.out H2.out).mono ?_); rintro e w3 ⟨v0, rfl, hS, hb3⟩; obtain ⟨A, cc, rfl⟩ := Kd.S_slice hS))
    have hz1 : (w1.alloc (.cells #[.pointer none, .slice none 0 0] 52)).heap.size = w1.heap.size + 1 := by simp
    have hbk : w3.heap[w1.heap.size]? = some (.cells #[.pointer none, .slice none 0 0] 52 (0, 0)) := (hb3.block _ (by rw [hz1]; omega)).trans (heap_alloc_new _ _)
    have RS : impl_PermText.RO w w.heap.size w1.heap.size (.slice A cs.length cc) cs t 0 w3 := by
      refine ⟨Int.le_refl _, by omega, ⟨#[]⟩, t, by simpa using H3.out, impl_PermText.nil_app t, .inl ⟨hb1.size, _, hbk, World.ownsRow_nil _ _ _ _, by simp [Value.ownBlock]⟩, Kd.S_lower hS (by rw [hz1]; omega), ?_⟩
      exact (hb1.alloc hb1.size _).trans (hb3.mono (by rw [hz1]; have := hb1.size; omega))
    clear hS hbk; have hz0 := hb1.size; clear hb3 hz1 hb1
    go_loopw [15] (fun i wr => ∃ x : Int, i = .int .i64 x ∧ impl_PermText.RO w w.heap.size w1.heap.size (.slice A cs.length cc) cs t x wr) (fun i _ => cs.length - (RowKit.intOf i).toNat)
    case atStart => exact ⟨0, rfl, RS⟩
    case round =>
      clear RS; obtain ⟨x, rfl, x0, x1, o, rest, g1, g2, g3, g4, g5⟩ := hrel
      have G1 := Lib.hid g1; clear g1
      have G2 := Lib.hid g2; clear g2
      by_cases hlt : x < cs.length
      · obtain ⟨-, hcap, hC⟩ := Kd.S_reads' g4
        obtain ⟨ad, A1, c1, ea, hx, hl1, hC1⟩ := impl_PermText.row_at hC x x0 hlt; subst ea
        have hos := impl_PermText.outer_step x0 hlt G1.out
        have hcm : (cs.getD x.toNat []).length ≤ 1000 := HCC.out _ (by rw [List.getD_eq_getElem?_getD, List.getElem?_eq_getElem (by omega)]; exact List.getElem_mem _)
        obtain ⟨c, hce⟩ : ∃ c, cs.getD x.toNat [] = c := ⟨_, rfl⟩
        rw [hce] at hx hl1 hC1 hos hcm
        have HCE := Lib.hid hce; clear hce
        have HC1 := A0_ hC1; clear hC1 hC
        have p1 := eq_true x0; have p2 := eq_true hlt
        rcases hos with ⟨hl, g⟩ | ⟨hl, tt, u, gi, gu, ge⟩
        · have HG := Lib.hid g; clear g
          go_wp2
          go_roundw
          case rel => exact ⟨x + 1, by go_num, by omega, by omega, o, rest, HG.out, G2.out, g3, g4, g5⟩
          case measure => simp [RowKit.intOf]; omega
        have HGI := Lib.hid gi; clear gi
        have HGU := Lib.hid gu; clear gu
        have RI0 : impl_PermText.RI w w.heap.size w1.heap.size (.slice (some ad) cs.length cc) cs t c u (ad.add x.toNat) (.slice A1 c.length c1) 0 wr := ⟨hx, Int.le_refl _, by omega, o, tt, by simpa using HGI.out, by rw [← ge]; exact G2.out, g3, g4, g5⟩
        clear ge HGI G2 g3 g4 g5
        go_wp2
        clear hx HC1 p1 p2
        go_loopw [24] (fun i wq => ∃ y : Int, i = .int .i64 y ∧ impl_PermText.RI w w.heap.size w1.heap.size (.slice (some ad) cs.length cc) cs t c u (ad.add x.toNat) (.slice A1 c.length c1) y wq) (fun i _ => c.length - (RowKit.intOf i).toNat)
        case atStart => exact ⟨0, rfl, RI0⟩
        case round =>
          clear RI0; obtain ⟨y, rfl, hx, y0, y1, o2, t2, k1, k2, k3, k4, k5⟩ := hrel
          have K1 := Lib.hid k1; clear k1
          have K2 := Lib.hid k2; clear k2
          have hsz : (o2 ++ (t2 ++ (⟨#[41]⟩ ++ u))).size ≤ 100000 := by rw [K2.out]; exact hts
          rw [ByteArray.size_append, ByteArray.size_append, ByteArray.size_append, show (⟨#[41]⟩ : ByteArray).size = 1 from rfl] at hsz
          by_cases hly : y < c.length
          · obtain ⟨n0, n1, u2, hu2, he2⟩ := impl_PermText.inner_step y0 hly K1.out
            have hC2 := (Kd.S_reads' k4).2.2
            obtain ⟨ad', A2, c2, ea2, hx2, _, hC3⟩ := impl_PermText.row_at hC2 x x0 hlt
            cases ea2
            rw [HCE.out] at hx2 hC3
            have eA : A2 = A1 ∧ c2 = c1 := by rw [hx] at hx2; simp at hx2; exact ⟨hx2.1.symm, hx2.2.symm⟩
            obtain ⟨rfl, rfl⟩ := eA; clear hx2 hC2; obtain ⟨ae, e1, hxe⟩ := tI hC3 y y0 hly
            cases e1
            clear hC3
            obtain ⟨m, hm⟩ : ∃ m : Nat, rd c y = m := ⟨(rd c y).toNat, by omega⟩
            rw [hm] at hxe n1 he2
            have hm1 : m < 100 := by omega
            have hdm : impl_PermText.dg (m : Int) = ⟨(Lib.decDigits m).toArray⟩ := by unfold impl_PermText.dg; simp
            obtain ⟨dm, hdm2⟩ : ∃ dm : ByteArray, (⟨(Lib.decDigits m).toArray⟩ : ByteArray) = dm := ⟨_, rfl⟩
            have hds : dm.size ≤ 2 := by rw [← hdm2]; exact XE.digits_size m hm1
            have hit : ∀ w, Calls Tryz.prog 35 #[.int .i64 (m : Int)] w fun e w' => e = .returned (.string dm) ∧ w' = w := by intro w; rw [← hdm2]; exact XS.itoa_small m hm1 w
            rw [hdm, hdm2] at he2
            have HM := Lib.hid hm; clear hm hdm hdm2 n0 n1
            have HU2 := Lib.hid hu2; clear hu2
            have hz2 : t2.size = 1 + dm.size + u2.size := by rw [he2, ByteArray.size_append, ByteArray.size_append, impl_PermText.sg_size]
            have KE : Hid ((o2 ++ (impl_PermText.sg y ++ dm)) ++ (u2 ++ (⟨#[41]⟩ ++ u)) = t) := by
              have := K2.out
              rw [he2] at this
              rw [← this]
              show _ = _
              simp only [ByteArray.append_assoc]
            clear he2
            have hw2 := XE.Builder_ws k3 (impl_PermText.sg y ++ dm) (by rw [Lib.strCells_length, ByteArray.size_append, impl_PermText.sg_size]; omega) k5.size
            have hblk := XE.is_block k3; have p1 := eq_true y0; have p2 := eq_true hly
            have hws : (impl_PermText.sg y ++ dm).size ≤ 3 := by rw [ByteArray.size_append, impl_PermText.sg_size]; omega
            by_cases hy : y = 0
            · have hb1 : (y == 0) = true := by simp [hy]
              have hb2 : decide (y = 0) = true := by simp [hy]
              have hsg : impl_PermText.sg y = ⟨#[40]⟩ := by unfold impl_PermText.sg; rw [if_pos hy]
              rw [hsg] at hw2 KE hws
              clear hsg
              have HYB := Lib.hid hy; clear hy
              go_wp2_with (first
                | (go_at_call 35; (with_reducible refine (hit _).mono ?_); rintro e w' ⟨rfl, rfl⟩)
                | (go_at_call 33; (with_reducible refine hw2.mono ?_); rintro e w4 ⟨rfl, b4, B4, q4⟩))
              go_roundw
              case rel => exact ⟨y + 1, by go_num, (impl_PermText.cell_others k4 q4 hblk _).trans hx, by omega, by omega, o2 ++ (⟨#[40]⟩ ++ dm), u2, HU2.out, KE.out, b4, impl_PermText.rows_others k4 hblk q4, k5.trans B4⟩
              case measure => simp [RowKit.intOf]; omega
            have hb1 : (y == 0) = false := by simp [hy]
            have hb2 : decide (y = 0) = false := by simp [hy]
            have hsg : impl_PermText.sg y = ⟨#[44]⟩ := by unfold impl_PermText.sg; rw [if_neg hy]
            rw [hsg] at hw2 KE hws
            clear hsg
            have HYB := Lib.hid hy; clear hy
            go_wp2_with (first
              | (go_at_call 35; (with_reducible refine (hit _).mono ?_); rintro e w' ⟨rfl, rfl⟩)
              | (go_at_call 33; (with_reducible refine hw2.mono ?_); rintro e w4 ⟨rfl, b4, B4, q4⟩))
            go_roundw
            case rel => exact ⟨y + 1, by go_num, (impl_PermText.cell_others k4 q4 hblk _).trans hx, by omega, by omega, o2 ++ (⟨#[44]⟩ ++ dm), u2, HU2.out, KE.out, b4, impl_PermText.rows_others k4 hblk q4, k5.trans B4⟩
            case measure => simp [RowKit.intOf]; omega
          have hnil : c.drop y.toNat = [] := List.drop_eq_nil_of_le (by omega)
          have ht2 : t2 = ⟨#[]⟩ := by
            have := K1.out
            rw [hnil, impl_PermText.inner_nil] at this
            exact (sI this).symm
          have KE : Hid ((o2 ++ ⟨#[41]⟩) ++ u = t) := by
            have := K2.out
            rw [ht2, impl_PermText.nil_app] at this
            rw [← this]
            show _ = _
            simp only [ByteArray.append_assoc]
          clear hnil ht2
          have hw2 := XE.Builder_ws k3 ⟨#[41]⟩ (by rw [Lib.strCells_length, show (⟨#[41]⟩ : ByteArray).size = 1 from rfl]; omega) k5.size
          have hblk := XE.is_block k3
          go_wp2_with (go_at_call 33; (with_reducible refine hw2.mono ?_); rintro e w4 ⟨rfl, b4, B4, q4⟩)
          go_roundw
          case rel => exact ⟨x + 1, by go_num, by omega, by omega, o2 ++ ⟨#[41]⟩, u, HGU.out, KE.out, b4, impl_PermText.rows_others k4 hblk q4, k5.trans B4⟩
          case measure => simp [RowKit.intOf]; omega
      have hnil : cs.drop x.toNat = [] := List.drop_eq_nil_of_le (by omega)
      have hrest : rest = ⟨#[]⟩ := by
        have := G1.out
        rw [hnil] at this
        exact (sI this).symm
      have hot : o = t := by
        have := G2.out
        rw [hrest, impl_PermText.app_nil] at this
        exact this
      subst hot; clear hnil hrest G2 G1; have hlen := XS.blen _ _ _ _ g3
      by_cases hz : o.size = 0
      · have hr : (⟨#[40, 41]⟩ : ByteArray) = r := by have := HH.out; rw [if_pos hz] at this; exact sI this
        subst hr; rw [hz] at hlen
        have HZ := Lib.hid hz; clear hz
        go_wp2_with (go_at_call 82; (with_reducible refine hlen.mono ?_); rintro e w' ⟨rfl, rfl⟩)
        go_ret
        exact ⟨rfl, g5⟩
      have hr : o = r := by have := HH.out; rw [if_neg hz] at this; exact sI this
      have hb1 : ((o.size : Int) == 0) = false := by rw [beq_eq_false_iff_ne]; omega
      have hb2 : decide ((o.size : Int) = 0) = false := dF (by omega)
      have HZ := Lib.hid hz; clear hz
      subst hr
      have hstr := XS.bstring _ _ _ _ g3 g5.size
      go_wp2_with (first
        | (go_at_call 82; (with_reducible refine hlen.mono ?_); rintro e w' ⟨rfl, rfl⟩)
        | (go_at_call 36; (with_reducible refine hstr.mono ?_); rintro e w4 ⟨rfl, B4⟩))
      go_ret
      exact ⟨rfl, g5.trans B4⟩


/-! ### impl_numberOf: function 65 -/
mutual
def impl_numberOf.j0 : Nat → ByteArray → Bool → Option (Int)
  | 0, _, _ => none
  | k + 1, x0, x12 => if x12 = true then (some (-1)) else (impl_numberOf.l0 k x0 0 (x0.size : Int) 0)
def impl_numberOf.l0 : Nat → ByteArray → Int → Int → Int → Option (Int)
  | 0, _, _, _, _ => none
  | k + 1, x0, x3, x14, x15 => if x15 < x14 then (if 0 ≤ x15 then (if x15 < (x0.size : Int) then (if (bt x0 x15) < 48 then (some (-1)) else (if (bt x0 x15) > 57 then (some (-1)) else (impl_numberOf.l0 k x0 (wrap64 ((wrap64 (x3 * 10)) + (((bt x0 x15) - 48) % 256))) x14 (wrap64 (x15 + 1))))) else (none)) else (none)) else (some x3)
end
def impl_numberOf.f (k : Nat) (a0 : ByteArray) : Option (Int) := if (a0.size : Int) < 1 then (impl_numberOf.j0 k a0 true) else (impl_numberOf.j0 k a0 (decide ((a0.size : Int) > 2)))
set_option maxHeartbeats 8000000 in
set_option maxRecDepth 100000 in
theorem impl_numberOf.calls (k : Nat) (a0 : ByteArray) (r : Int) (w : World) (h : impl_numberOf.f k a0 = some r) :
    Calls Tryz.prog 65 #[.string a0] w fun e w' => e = .returned (.int .i64 r) ∧ Drawn0 w w' := by
 have H : (if (a0.size : Int) < 1 then (impl_numberOf.j0 k a0 true) else (impl_numberOf.j0 k a0 (decide ((a0.size : Int) > 2)))) = some r := h
 clear h; have HC2 := A0_ H; clear H
 go_enter Tryz.func65, Tryz.ntmps65
 go_upto_region 1 with (fail)
 go_cut [12] (fun v12 wc => ∃ (kq : Nat) (x12_1 : Bool), v12 = .bool x12_1 ∧ Aside0 (impl_numberOf.j0 kq a0 x12_1 = some r) ∧ Aside0 (kq ≤ k) ∧ Drawn0 w wc)
 case first =>
  have H := HC2.out; clear HC2
  by_cases c3 : (a0.size : Int) < 1
  ·rw [if_pos c3] at H
   have c3b0 := dT c3
   have c3b1 : decide (a0.size < 1) = true := dT (by omega)
   clear c3
   (first | rw [c3b0] | (simp only [i64_w, i32_w]; rw [c3b0]) | skip)
   have H' := A0_ H; clear H
   go_wp2
   go_meet
   case rel => exact ⟨_, (true), zt, H', zo, by repeat (first | exact Drawn0.refl _ | apply Drawn0.step)⟩
  rw [if_neg c3] at H; have c3b0 := dF c3
  have c3b1 : decide (a0.size < 1) = false := dF (by omega)
  clear c3
  (first | rw [c3b0] | (simp only [i64_w, i32_w]; rw [c3b0]) | skip)
  have H' := A0_ H; clear H
  go_wp2
  go_meet
  case rel => exact ⟨_, (decide ((a0.size : Int) > 2)), zt, H', zo, by repeat (first | exact Drawn0.refl _ | apply Drawn0.step)⟩
 case rest =>
  clear HC2; (try clear p2); (try clear c3); (try clear c3b0); (try clear c3b1); obtain ⟨kq, x12_1, rfl, HA, HJ1, ⟨mc1, rfl⟩⟩ := hcut
  cases kq with
  | zero => exact absurd HA.out (by simp [impl_numberOf.j0])
  | succ kj1 =>
   have H := HA.out; clear HA; simp only [impl_numberOf.j0] at H
   by_cases c4 : x12_1 = true
   ·subst c4
    rw [if_pos rfl] at H; obtain rfl := sI H
    go_wp2
    go_ret
    exact ⟨by first | rfl | (simp; done) | (simp [*]; done), by repeat (first | exact Drawn0.refl _ | apply Drawn0.step)⟩
   replace c4 := Bool.eq_false_iff.mpr c4; subst c4
   rw [if_neg (show ¬ (false = true) by decide)] at H
   have H' := A0_ H; clear H
   go_wp2
   go_loopg [3, 15] kj1 (fun kq v3 v15 w' => ∃ (x3_2 : Int) (x15_2 : Int), v3 = .int .i64 x3_2 ∧ v15 = .int .i64 x15_2 ∧ Aside0 (impl_numberOf.l0 kq a0 x3_2 (a0.size : Int) x15_2 = some r) ∧ Aside0 (kq ≤ kj1) ∧ Drawn0 w w')
   case atStart => exact ⟨(0), (0), zt, zt, H', ⟨Nat.le_refl _⟩, by repeat (first | exact Drawn0.refl _ | apply Drawn0.step)⟩
   case round =>
    clear H'; (try clear c1); (try clear p2); (try clear c3); (try clear c3b0); (try clear c3b1); (try clear c4); (try clear p2); obtain ⟨x3_2, x15_2, rfl, rfl, HA, HK2, ⟨m2, rfl⟩⟩ := hrel
    cases gk with
    | zero => exact absurd HA.out (by simp [impl_numberOf.l0])
    | succ k2 =>
     have H := HA.out; clear HA; simp only [impl_numberOf.l0] at H
     by_cases c5 : x15_2 < (a0.size : Int)
     ·rw [if_pos c5] at H
      have c5b0 := dT c5; clear c5
      by_cases c6 : 0 ≤ x15_2
      ·rw [if_pos c6] at H
       have c6b0 := dT c6; clear c6
       by_cases c7 : x15_2 < (a0.size : Int)
       ·rw [if_pos c7] at H
        have c7b0 := dT c7; clear c7
        by_cases c9 : (bt a0 x15_2) < 48
        ·rw [if_pos c9] at H
         have c9b0 := dT c9; clear c9; obtain rfl := sI H
         have p8 : 0 ≤ (x15_2 : Int) := zd
         have q8 : x15_2 < (a0.size : Int) := zd
         have hx8 := bt_at a0 x15_2; replace p8 := eq_true p8; replace q8 := eq_true q8
         go_wp2
         go_ret
         exact ⟨by first | rfl | (simp; done) | (simp [*]; done), by repeat (first | exact Drawn0.refl _ | apply Drawn0.step)⟩
        rw [if_neg c9] at H; have c9b0 := dF c9; clear c9
        by_cases c11 : (bt a0 x15_2) > 57
        ·rw [if_pos c11] at H
         have c11b0 : decide (57 < (bt a0 x15_2)) = true := dT c11
         clear c11; obtain rfl := sI H
         have p8 : 0 ≤ (x15_2 : Int) := zd
         have q8 : x15_2 < (a0.size : Int) := zd
         have hx8 := bt_at a0 x15_2; replace p8 := eq_true p8; replace q8 := eq_true q8
         have p10 : 0 ≤ (x15_2 : Int) := zd
         have q10 : x15_2 < (a0.size : Int) := zd
         have hx10 := bt_at a0 x15_2; replace p10 := eq_true p10; replace q10 := eq_true q10
         go_wp2
         go_ret
         exact ⟨by first | rfl | (simp; done) | (simp [*]; done), by repeat (first | exact Drawn0.refl _ | apply Drawn0.step)⟩
        rw [if_neg c11] at H
        have c11b0 : decide (57 < (bt a0 x15_2)) = false := dF c11
        clear c11; have H' := A0_ H; clear H
        have p8 : 0 ≤ (x15_2 : Int) := zd
        have q8 : x15_2 < (a0.size : Int) := zd
        have hx8 := bt_at a0 x15_2; replace p8 := eq_true p8; replace q8 := eq_true q8
        have p10 : 0 ≤ (x15_2 : Int) := zd
        have q10 : x15_2 < (a0.size : Int) := zd
        have hx10 := bt_at a0 x15_2; replace p10 := eq_true p10; replace q10 := eq_true q10
        have p12 : 0 ≤ (x15_2 : Int) := zd
        have q12 : x15_2 < (a0.size : Int) := zd
        have hx12 := bt_at a0 x15_2; replace p12 := eq_true p12; replace q12 := eq_true q12
        go_wp2
        go_roundg k2
        case measure => have := HJ1.out; have := HK2.out; omega
        case rel => exact ⟨(wrap64 ((wrap64 (x3_2 * 10)) + (((bt a0 x15_2) - 48) % 256))), (wrap64 (x15_2 + 1)), zt, zt, H', ⟨by have := HJ1.out; have := HK2.out; omega⟩, by repeat (first | exact Drawn0.refl _ | apply Drawn0.step)⟩
       rw [if_neg c7] at H
       exact absurd H (by simp)
      rw [if_neg c6] at H
      exact absurd H (by simp)
     rw [if_neg c5] at H; have c5b0 := dF c5; clear c5; obtain rfl := sI H
     go_wp2
     go_ret
     exact ⟨by first | rfl | (simp; done) | (simp [*]; done), by repeat (first | exact Drawn0.refl _ | apply Drawn0.step)⟩

/-! ### strings_Split: function 32 -/
def strings_Split.f (a0 a1 : ByteArray) : Option (List ByteArray) := if a1 = ⟨#[44]⟩ ∧ a0.size ≤ 1000000 then some (Lib.splitB ⟨#[44]⟩ 0 (Lib.countB a0 ⟨#[44]⟩) a0) else none
theorem strings_Split.calls (a0 a1 : ByteArray) (r : List ByteArray) (w : World) (h : strings_Split.f a0 a1 = some r) : Calls Tryz.prog 32 #[.string a0, .string a1] w fun e w' => ∃ v0_ : Value, e = .returned (v0_) ∧ Kd.R Kd.string 9 w' w.heap.size (fun _ => True) v0_ r ∧ Below w.heap.size w w' := by
  unfold strings_Split.f at h
  split at h
  · rename_i hc
    obtain ⟨rfl, hs⟩ := hc
    have hl := Lib.splitB_all ⟨#[44]⟩ (Nat.le_refl 1) 0 _ a0 rfl
    have hb := Lib.countB_le ⟨#[44]⟩ (Nat.le_refl 1) a0.size a0 (Nat.le_refl _)
    obtain rfl := sI h
    refine (XS.split1 a0 44 w (by omega)).mono ?_
    rintro e w' ⟨rfl, rfl⟩
    refine ⟨_, rfl, Kd.R_of_own (enc := Value.string) ⟨?_, .inr ⟨w.heap.size, Lib.countB a0 ⟨#[44]⟩ + 1, _, ?_, Nat.le_refl _, heap_alloc_new _ _, ?_, ?_, ?_, ?_⟩⟩ (fun _ _ => trivial), (Below.refl _ _).alloc (Nat.le_refl _) _⟩
    · simp [encs]
    · rw [hl]
    · omega
    · unfold maxLen; omega
    · simp [hl]
    simp [encs, hl]
    exact List.take_of_length_le (by simp [hl])
  cases h


/-! ### strings_CutPrefix: function 101 -/
def strings_CutPrefix.f (a0 a1 : ByteArray) : Option (ByteArray × Bool) := some (⟨(Lib.trimPrefix a0.data.toList a1.data.toList).toArray⟩, Lib.hasPrefix a0.data.toList a1.data.toList)
theorem strings_CutPrefix.calls (a0 a1 : ByteArray) (r1 : ByteArray) (r2 : Bool) (w : World) (h : strings_CutPrefix.f a0 a1 = some (r1, r2)) : Calls Tryz.prog 101 #[.string a0, .string a1] w fun e w' => e = .returned (.tuple #[.string r1, .bool r2]) ∧ Drawn0 w w' := by
  unfold strings_CutPrefix.f at h
  simp only [Option.some.injEq, Prod.mk.injEq] at h
  obtain ⟨rfl, rfl⟩ := h
  refine (XS.cutpre a0 a1 w).mono ?_
  rintro e w' ⟨rfl, rfl⟩
  exact ⟨rfl, Drawn0.refl _⟩


/-! ### strings_Cut: function 102 -/
def strings_Cut.f (a0 a1 : ByteArray) : Option (ByteArray × ByteArray × Bool) := if a1 = ⟨#[41]⟩ ∧ a0.size ≤ 1000000 then some (⟨(Lib.cut a0.data.toList [41]).1.toArray⟩, ⟨(Lib.cut a0.data.toList [41]).2.1.toArray⟩, (Lib.cut a0.data.toList [41]).2.2) else none
theorem strings_Cut.calls (a0 a1 : ByteArray) (r1 r2 : ByteArray) (r3 : Bool) (w : World) (h : strings_Cut.f a0 a1 = some (r1, r2, r3)) : Calls Tryz.prog 102 #[.string a0, .string a1] w fun e w' => e = .returned (.tuple #[.string r1, .string r2, .bool r3]) ∧ Drawn0 w w' := by
  unfold strings_Cut.f at h
  split at h
  · rename_i hc
    obtain ⟨rfl, hs⟩ := hc
    simp only [Option.some.injEq, Prod.mk.injEq] at h
    obtain ⟨rfl, rfl, rfl⟩ := h
    refine (XS.cut1 a0 41 w hs).mono ?_
    rintro e w' ⟨rfl, n, rfl⟩
    exact ⟨rfl, (Drawn0.refl _).step n⟩
  cases h


end Go.Proofs.YtjebcgbmlbemcaaGreatDoor.PFnExecuteTutte
