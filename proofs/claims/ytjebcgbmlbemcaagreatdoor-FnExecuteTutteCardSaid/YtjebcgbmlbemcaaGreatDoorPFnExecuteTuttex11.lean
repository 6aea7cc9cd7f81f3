-- Made by a program of this session (wip/tools) out of the loaded program; not trusted: Lean checks it.
import Derived.Test.YtjebcgbmlbemcaaGreatDoorPFnExecuteTuttex0
import Derived.Test.YtjebcgbmlbemcaaGreatDoorPFnExecuteTuttex8
import Derived.Test.YtjebcgbmlbemcaaGreatDoorPFnExecuteTuttex10
-- packed
namespace Go.Proofs.YtjebcgbmlbemcaaGreatDoor.PFnExecuteTutte
open Go.RowKit Go.Proofs.YtjebcgbmlbemcaaGreatDoorW.PrintWords Go.Proofs.YtjebcgbmlbemcaaGreatDoorW.PrintLast Go.Proofs.YtjebcgbmlbemcaaGreatDoorW.PrintMore
attribute [local go_sem] max2_int min2_int max_two min_two max_three min_three max_four min_four   -- for this text's walks alone
set_option linter.unusedVariables false
set_option linter.unusedSimpArgs false

/-! ### laws_mapLine: function 11 -/
def laws_mapLine.f (k : Nat) (l0_0 : List Int) (l0_1 : List Int) : Option (ByteArray) := (laws_digits.f k (l0_0.length : Int)).bind fun t382 => (if 4 + t382.size ≤ 9223372036854775807 then (if ((⟨#[109, 97, 112, 32]⟩ : ByteArray) ++ t382).size + 1 ≤ 9223372036854775807 then ((impl_PermText.f k l0_0).bind fun t383 => (if (((⟨#[109, 97, 112, 32]⟩ : ByteArray) ++ t382) ++ (⟨#[32]⟩ : ByteArray)).size + t383.size ≤ 9223372036854775807 then (if ((((⟨#[109, 97, 112, 32]⟩ : ByteArray) ++ t382) ++ (⟨#[32]⟩ : ByteArray)) ++ t383).size + 1 ≤ 9223372036854775807 then ((impl_PermText.f k l0_1).bind fun t384 => (if (((((⟨#[109, 97, 112, 32]⟩ : ByteArray) ++ t382) ++ (⟨#[32]⟩ : ByteArray)) ++ t383) ++ (⟨#[32]⟩ : ByteArray)).size + t384.size ≤ 9223372036854775807 then (if ((((((⟨#[109, 97, 112, 32]⟩ : ByteArray) ++ t382) ++ (⟨#[32]⟩ : ByteArray)) ++ t383) ++ (⟨#[32]⟩ : ByteArray)) ++ t384).size + 1 ≤ 9223372036854775807 then (some (((((((⟨#[109, 97, 112, 32]⟩ : ByteArray) ++ t382) ++ (⟨#[32]⟩ : ByteArray)) ++ t383) ++ (⟨#[32]⟩ : ByteArray)) ++ t384) ++ (⟨#[10]⟩ : ByteArray))) else (none)) else (none))) else (none)) else (none))) else (none)) else (none))
def laws_mapLine.T1 : Bool × List (List Nat × List Nat) := (true, [([], []), ([0], [0]), ([1], [1]), ([2], [2]), ([3], [3]), ([4], [4]), ([], []), ([6], [6]), ([7, 3], [7]), ([5, 8], [5, 8]), ([9], [9]), ([], []), ([11], [11]), ([12, 8], [12]), ([10, 13], [10, 13]), ([14], [14]), ([15, 13, 0, 1, 2, 3, 4, 5, 6, 7, 8, 9, 10, 11, 12, 13, 14, 15], [15])])
def laws_mapLine.B1 : List Nat := [0, 1, 3, 7, 15, 31, 0, 64, 207, 511, 1023, 0, 2048, 6607, 16383, 32767, 65535]
theorem laws_mapLine.tab1 : rtab .any (opsOf Tryz.f11 1) = laws_mapLine.T1 := by kernel_rfl
theorem laws_mapLine.bits1 : waitsOk laws_mapLine.T1.2 laws_mapLine.B1 = true := by kernel_rfl
set_option maxHeartbeats 8000000 in
set_option maxRecDepth 100000 in
theorem laws_mapLine.calls (k : Nat) (A0_0 : Option Addr) (c0_0 : Nat) (l0_0 : List Int) (A0_1 : Option Addr) (c0_1 : Nat) (l0_1 : List Int) (r : ByteArray) (w : World) (hr0_0 : Kd.C (Kd.int .i64) w A0_0 l0_0.length l0_0) (hc0_0 : l0_0.length ≤ c0_0) (hr0_1 : Kd.C (Kd.int .i64) w A0_1 l0_1.length l0_1) (hc0_1 : l0_1.length ≤ c0_1) (h : laws_mapLine.f k l0_0 l0_1 = some r) :
    Calls Tryz.prog 11 #[.agg #[.slice A0_0 l0_0.length c0_0, .slice A0_1 l0_1.length c0_1]] w fun e w' => e = .returned (.string r) ∧ Below w.heap.size w w' := by
 have hu25 := Tryz.underlying25; have HR0_0 := A0_ hr0_0; have HC0_0 := A0_ hc0_0; clear hr0_0 hc0_0; have HR0_1 := A0_ hr0_1; have HC0_1 := A0_ hc0_1; clear hr0_1 hc0_1
 have HB := A0_ (Below.refl w.heap.size w)
 have H : ((laws_digits.f k (l0_0.length : Int)).bind fun t382 => (if 4 + t382.size ≤ 9223372036854775807 then (if ((⟨#[109, 97, 112, 32]⟩ : ByteArray) ++ t382).size + 1 ≤ 9223372036854775807 then ((impl_PermText.f k l0_0).bind fun t383 => (if (((⟨#[109, 97, 112, 32]⟩ : ByteArray) ++ t382) ++ (⟨#[32]⟩ : ByteArray)).size + t383.size ≤ 9223372036854775807 then (if ((((⟨#[109, 97, 112, 32]⟩ : ByteArray) ++ t382) ++ (⟨#[32]⟩ : ByteArray)) ++ t383).size + 1 ≤ 9223372036854775807 then ((impl_PermText.f k l0_1).bind fun t384 => (if (((((⟨#[109, 97, 112, 32]⟩ : ByteArray) ++ t382) ++ (⟨#[32]⟩ : ByteArray)) ++ t383) ++ (⟨#[32]⟩ : ByteArray)).size + t384.size ≤ 9223372036854775807 then (if ((((((⟨#[109, 97, 112, 32]⟩ : ByteArray) ++ t382) ++ (⟨#[32]⟩ : ByteArray)) ++ t383) ++ (⟨#[32]⟩ : ByteArray)) ++ t384).size + 1 ≤ 9223372036854775807 then (some (((((((⟨#[109, 97, 112, 32]⟩ : ByteArray) ++ t382) ++ (⟨#[32]⟩ : ByteArray)) ++ t383) ++ (⟨#[32]⟩ : ByteArray)) ++ t384) ++ (⟨#[10]⟩ : ByteArray))) else (none)) else (none))) else (none)) else (none))) else (none)) else (none))) = some r := h
 clear h; obtain ⟨t382, A2, H⟩ := zbind H
 by_cases c3 : 4 + t382.size ≤ 9223372036854775807
 ·rw [if_pos c3] at H
  have c3b0 := eq_true c3; have c3b1 := dT c3
  try have c3b2 : (9223372036854775807 < 4 + t382.size) = False := eq_false (Nat.not_lt.2 c3)
  obtain ⟨zs4, hzs4⟩ : ∃ j_ : ByteArray, ((⟨#[109, 97, 112, 32]⟩ : ByteArray) ++ t382) = j_ := ⟨_, rfl⟩
  replace H : (if zs4.size + 1 ≤ 9223372036854775807 then ((impl_PermText.f k l0_0).bind fun t383 => (if (zs4 ++ (⟨#[32]⟩ : ByteArray)).size + t383.size ≤ 9223372036854775807 then (if ((zs4 ++ (⟨#[32]⟩ : ByteArray)) ++ t383).size + 1 ≤ 9223372036854775807 then ((impl_PermText.f k l0_1).bind fun t384 => (if (((zs4 ++ (⟨#[32]⟩ : ByteArray)) ++ t383) ++ (⟨#[32]⟩ : ByteArray)).size + t384.size ≤ 9223372036854775807 then (if ((((zs4 ++ (⟨#[32]⟩ : ByteArray)) ++ t383) ++ (⟨#[32]⟩ : ByteArray)) ++ t384).size + 1 ≤ 9223372036854775807 then (some (((((zs4 ++ (⟨#[32]⟩ : ByteArray)) ++ t383) ++ (⟨#[32]⟩ : ByteArray)) ++ t384) ++ (⟨#[10]⟩ : ByteArray))) else (none)) else (none))) else (none)) else (none))) else (none)) = some r := by first | (rw [hzs4] at H; exact H) | (simp only [hzs4] at H ⊢; exact H) | exact H
  (try rw [hzs4] at A2)
  by_cases c5 : zs4.size + 1 ≤ 9223372036854775807
  ·rw [if_pos c5] at H
   have c5b0 := eq_true c5; have c5b1 := dT c5
   try have c5b2 : (9223372036854775807 < zs4.size + 1) = False := eq_false (Nat.not_lt.2 c5)
   obtain ⟨zs6, hzs6⟩ : ∃ j_ : ByteArray, (zs4 ++ (⟨#[32]⟩ : ByteArray)) = j_ := ⟨_, rfl⟩
   replace H : ((impl_PermText.f k l0_0).bind fun t383 => (if zs6.size + t383.size ≤ 9223372036854775807 then (if (zs6 ++ t383).size + 1 ≤ 9223372036854775807 then ((impl_PermText.f k l0_1).bind fun t384 => (if ((zs6 ++ t383) ++ (⟨#[32]⟩ : ByteArray)).size + t384.size ≤ 9223372036854775807 then (if (((zs6 ++ t383) ++ (⟨#[32]⟩ : ByteArray)) ++ t384).size + 1 ≤ 9223372036854775807 then (some ((((zs6 ++ t383) ++ (⟨#[32]⟩ : ByteArray)) ++ t384) ++ (⟨#[10]⟩ : ByteArray))) else (none)) else (none))) else (none)) else (none))) = some r := by first | (rw [hzs6] at H; exact H) | (simp only [hzs6] at H ⊢; exact H) | exact H
   (try rw [hzs6] at A2)
   obtain ⟨t383, A7, H⟩ := zbind H
   by_cases c8 : zs6.size + t383.size ≤ 9223372036854775807
   ·rw [if_pos c8] at H
    have c8b0 := eq_true c8; have c8b1 := dT c8
    try have c8b2 : (9223372036854775807 < zs6.size + t383.size) = False := eq_false (Nat.not_lt.2 c8)
    obtain ⟨zs9, hzs9⟩ : ∃ j_ : ByteArray, (zs6 ++ t383) = j_ := ⟨_, rfl⟩
    replace H : (if zs9.size + 1 ≤ 9223372036854775807 then ((impl_PermText.f k l0_1).bind fun t384 => (if (zs9 ++ (⟨#[32]⟩ : ByteArray)).size + t384.size ≤ 9223372036854775807 then (if ((zs9 ++ (⟨#[32]⟩ : ByteArray)) ++ t384).size + 1 ≤ 9223372036854775807 then (some (((zs9 ++ (⟨#[32]⟩ : ByteArray)) ++ t384) ++ (⟨#[10]⟩ : ByteArray))) else (none)) else (none))) else (none)) = some r := by first | (rw [hzs9] at H; exact H) | (simp only [hzs9] at H ⊢; exact H) | exact H
    (try rw [hzs9] at A2)
    (try rw [hzs9] at A7)
    by_cases c10 : zs9.size + 1 ≤ 9223372036854775807
    ·rw [if_pos c10] at H
     have c10b0 := eq_true c10; have c10b1 := dT c10
     try have c10b2 : (9223372036854775807 < zs9.size + 1) = False := eq_false (Nat.not_lt.2 c10)
     obtain ⟨zs11, hzs11⟩ : ∃ j_ : ByteArray, (zs9 ++ (⟨#[32]⟩ : ByteArray)) = j_ := ⟨_, rfl⟩
     replace H : ((impl_PermText.f k l0_1).bind fun t384 => (if zs11.size + t384.size ≤ 9223372036854775807 then (if (zs11 ++ t384).size + 1 ≤ 9223372036854775807 then (some ((zs11 ++ t384) ++ (⟨#[10]⟩ : ByteArray))) else (none)) else (none))) = some r := by first | (rw [hzs11] at H; exact H) | (simp only [hzs11] at H ⊢; exact H) | exact H
     (try rw [hzs11] at A2)
     (try rw [hzs11] at A7)
     obtain ⟨t384, A12, H⟩ := zbind H
     by_cases c13 : zs11.size + t384.size ≤ 9223372036854775807
     ·rw [if_pos c13] at H
      have c13b0 := eq_true c13; have c13b1 := dT c13
      try have c13b2 : (9223372036854775807 < zs11.size + t384.size) = False := eq_false (Nat.not_lt.2 c13)
      obtain ⟨zs14, hzs14⟩ : ∃ j_ : ByteArray, (zs11 ++ t384) = j_ := ⟨_, rfl⟩
      replace H : (if zs14.size + 1 ≤ 9223372036854775807 then (some (zs14 ++ (⟨#[10]⟩ : ByteArray))) else (none)) = some r := by first | (rw [hzs14] at H; exact H) | (simp only [hzs14] at H ⊢; exact H) | exact H
      (try rw [hzs14] at A2)
      (try rw [hzs14] at A7)
      (try rw [hzs14] at A12)
      by_cases c15 : zs14.size + 1 ≤ 9223372036854775807
      ·rw [if_pos c15] at H
       have c15b0 := eq_true c15; have c15b1 := dT c15
       try have c15b2 : (9223372036854775807 < zs14.size + 1) = False := eq_false (Nat.not_lt.2 c15)
       obtain ⟨zs16, hzs16⟩ : ∃ j_ : ByteArray, (zs14 ++ (⟨#[10]⟩ : ByteArray)) = j_ := ⟨_, rfl⟩
       replace H : (some zs16) = some r := by first | (rw [hzs16] at H; exact H) | (simp only [hzs16] at H ⊢; exact H) | exact H
       (try rw [hzs16] at A2)
       (try rw [hzs16] at A7)
       (try rw [hzs16] at A12)
       obtain rfl := sI H
       go_enter Tryz.func11, Tryz.ntmps11
       try go_wp2_with (first | ((with_reducible refine gD (N := 1) rfl ?_); refine zX (N := 1) (cs := #[.slice A0_0 l0_0.length c0_0, .slice A0_1 l0_1.length c0_1]) (t := 25) ?_; intro gb381 hg w17 hbox hb; have BK381 := A0_ (hbox); have GW381 := zG hg HB; have GE381 := zG hg HB; replace HB := zB HB hb; clear hb hbox hg))
       replace BK381 := A0_ (kD BK381.out)
       replace HB := A0_ (bD HB.out)
       refine start_ (n := 17) (S := fun w' => w'.cell? ⟨gb381, 0, none⟩ = some (.slice A0_0 l0_0.length c0_0) ∧ w'.cell? ⟨gb381, 1, none⟩ = some (.slice A0_1 l0_1.length c0_1)) (ds := []) #[false, false, false, false, false, false, false, false, false, false, false, false, false, false, false, false, false] (by kernel_rfl) rfl rfl ⟨(kC BK381.out 0).trans rfl, (kC BK381.out 1).trans rfl⟩ (fun hHeld => ?_); refine with_tabW laws_mapLine.tab1 laws_mapLine.bits1 (fun HT_ HW_ => ?_)
       generalize w17.drew = w18 at BK381 HB hHeld ⊢
       refine zP 0 (some 3) #[true,false,false,false,false,false,false,false,false,false,false,false,false,false,false,false,false] ?_
       refine zP 6 (some 9) #[true,false,false,false,false,false,true,false,false,false,false,false,false,false,false,false,false] ?_
       refine zP 11 (some 14) #[true,false,false,false,false,false,true,false,false,false,false,true,false,false,false,false,false] ?_
       refine take_ (i := 1) (N := some 4) (v := ?_) (a' := ?_) #[true, true, false, false, false, false, true, false, false, false, false, true, false, false, false, false, false] rfl rfl (take_ofW HT_.out HW_.out (by kernel_rfl)) (fun _ _ _ h => h) (Or.inl ⟨by rfl, ?_⟩) hHeld ?_ ?_
       rotate_left
       ·rintro w' ⟨s0, s1⟩
        go_simp
        with_reducible rfl
       rotate_left
       ·simp only [Act.put, List.setIfInBounds_toArray, List.set_cons_zero, List.set_cons_succ, i64_w, i32_w]
        rfl
       refine zP 2 (some 5) #[true,true,true,false,false,false,true,false,false,false,false,true,false,false,false,false,false] ?_
       refine take_ (i := 7) (N := some 10) (v := ?_) (a' := ?_) #[true, true, true, false, false, false, true, true, false, false, false, true, false, false, false, false, false] rfl rfl (take_ofW HT_.out HW_.out (by kernel_rfl)) (fun _ _ _ h => h) (Or.inl ⟨by rfl, ?_⟩) hHeld ?_ ?_
       rotate_left
       ·rintro w' ⟨s0, s1⟩
        go_simp
        with_reducible rfl
       rotate_left
       ·simp only [Act.put, List.setIfInBounds_toArray, List.set_cons_zero, List.set_cons_succ, i64_w, i32_w]
        rfl
       refine take_ (i := 12) (N := some 15) (v := ?_) (a' := ?_) #[true, true, true, false, false, false, true, true, false, false, false, true, true, false, false, false, false] rfl rfl (take_ofW HT_.out HW_.out (by kernel_rfl)) (fun _ _ _ h => h) (Or.inl ⟨by rfl, ?_⟩) hHeld ?_ ?_
       rotate_left
       ·rintro w' ⟨s0, s1⟩
        go_simp
        with_reducible rfl
       rotate_left
       ·simp only [Act.put, List.setIfInBounds_toArray, List.set_cons_zero, List.set_cons_succ, i64_w, i32_w]
        rfl
       refine one_ (i := 3) (N := some 6) #[true, true, true, true, false, false, true, true, false, false, false, true, true, false, false, false, false] rfl rfl (one_of HT_.out (by kernel_rfl)) (by decide) (fun K hK => ?_)
       refine goes_ Tryz.func17 (by kernel_rfl) rfl #[.int .i64 (l0_0.length : Int)] (by rfl) rfl rfl (by (try simp only [List.map_toArray, List.map_cons, List.map_nil]); first | done | rfl | (simp only [List.length_drop, List.length_take]; rfl)) ?_
       with_reducible refine (laws_digits.calls k (l0_0.length : Int) t382 _ A2.out).mono ?_
       rintro e w19 ⟨rfl, hb⟩
       refine ⟨_, rfl, ?_⟩
       replace BK381 := zK BK381 hb; replace HB := zB HB hb; (try clear hb); (try clear hb2); (try clear hk); (try clear hi)
       refine hK.out _ _ ⟨(kC BK381.out 0).trans rfl, (kC BK381.out 1).trans rfl⟩ (fun hHeld => ?_)
       clear hK K
       refine norm_ (a' := ?_) ?_ ?_
       rotate_left
       ·show Act.put _ (some 6) _ = _
        simp only [Act.put, List.setIfInBounds_toArray, List.set_cons_zero, List.set_cons_succ, i64_w, i32_w]
        rfl
       refine zP 4 (some 7) #[true,true,true,true,true,false,true,true,false,false,false,true,true,false,false,false,false] ?_
       refine zP 5 (some 8) #[true,true,true,true,true,true,true,true,false,false,false,true,true,false,false,false,false] ?_
       refine one_ (i := 8) (N := some 11) #[true, true, true, true, true, true, true, true, true, false, false, true, true, false, false, false, false] rfl rfl (one_of HT_.out (by kernel_rfl)) (by decide) (fun K hK => ?_)
       refine goes_ Tryz.func37 (by kernel_rfl) rfl #[.slice A0_0 l0_0.length c0_0] (by rfl) rfl rfl (by (try simp only [List.map_toArray, List.map_cons, List.map_nil]); first | done | rfl | (simp only [List.length_drop, List.length_take]; rfl)) ?_
       with_reducible refine (impl_PermText.calls k _ _ l0_0 t383 _ ?side1 ?side2 A7.out).mono ?_
       (case side1 => exact zC HR0_0 HB)
       (case side2 => exact HC0_0.out)
       rintro e w20 ⟨rfl, hb⟩
       refine ⟨_, rfl, ?_⟩
       replace BK381 := zK BK381 hb; replace HB := zB HB hb; (try clear hb); (try clear hb2); (try clear hk); (try clear hi)
       refine hK.out _ _ ⟨(kC BK381.out 0).trans rfl, (kC BK381.out 1).trans rfl⟩ (fun hHeld => ?_)
       clear hK K
       refine norm_ (a' := ?_) ?_ ?_
       rotate_left
       ·show Act.put _ (some 11) _ = _
        simp only [Act.put, List.setIfInBounds_toArray, List.set_cons_zero, List.set_cons_succ, i64_w, i32_w]
        rfl
       refine zP 9 (some 12) #[true,true,true,true,true,true,true,true,true,true,false,true,true,false,false,false,false] ?_
       refine zP 10 (some 13) #[true,true,true,true,true,true,true,true,true,true,true,true,true,false,false,false,false] ?_
       refine one_ (i := 13) (N := some 16) #[true, true, true, true, true, true, true, true, true, true, true, true, true, true, false, false, false] rfl rfl (one_of HT_.out (by kernel_rfl)) (by decide) (fun K hK => ?_)
       refine goes_ Tryz.func37 (by kernel_rfl) rfl #[.slice A0_1 l0_1.length c0_1] (by rfl) rfl rfl (by (try simp only [List.map_toArray, List.map_cons, List.map_nil]); first | done | rfl | (simp only [List.length_drop, List.length_take]; rfl)) ?_
       with_reducible refine (impl_PermText.calls k _ _ l0_1 t384 _ ?side1 ?side2 A12.out).mono ?_
       (case side1 => exact zC HR0_1 HB)
       (case side2 => exact HC0_1.out)
       rintro e w21 ⟨rfl, hb⟩
       refine ⟨_, rfl, ?_⟩
       replace BK381 := zK BK381 hb; replace HB := zB HB hb; (try clear hb); (try clear hb2); (try clear hk); (try clear hi)
       refine hK.out _ _ ⟨(kC BK381.out 0).trans rfl, (kC BK381.out 1).trans rfl⟩ (fun hHeld => ?_)
       clear hK K
       refine norm_ (a' := ?_) ?_ ?_
       rotate_left
       ·show Act.put _ (some 16) _ = _
        simp only [Act.put, List.setIfInBounds_toArray, List.set_cons_zero, List.set_cons_succ, i64_w, i32_w]
        rfl
       refine zP 14 (some 17) #[true,true,true,true,true,true,true,true,true,true,true,true,true,true,true,false,false] ?_
       refine zP 15 (some 18) #[true,true,true,true,true,true,true,true,true,true,true,true,true,true,true,true,false] ?_
       refine zP 16 (some 2) #[true,true,true,true,true,true,true,true,true,true,true,true,true,true,true,true,true] ?_
       refine done_ (done_of HT_.out (by kernel_rfl)) ?_
       try go_wp2
       go_ret
       exact ⟨by first | rfl | (simp [*] <;> rfl), zB_ HB⟩
      rw [if_neg c15] at H
      exact absurd H (by simp)
     rw [if_neg c13] at H
     exact absurd H (by simp)
    rw [if_neg c10] at H
    exact absurd H (by simp)
   rw [if_neg c8] at H
   exact absurd H (by simp)
  rw [if_neg c5] at H
  exact absurd H (by simp)
 rw [if_neg c3] at H
 exact absurd H (by simp)

/-! ### laws_shown: function 12 -/
def laws_shown.f (k : Nat) (l0_0 : List Int) (l0_1 : List Int) : Option (ByteArray) := (impl_PermText.f k l0_0).bind fun t386 => (if t386.size + 1 ≤ 9223372036854775807 then ((impl_PermText.f k l0_1).bind fun t387 => (if (t386 ++ (⟨#[32]⟩ : ByteArray)).size + t387.size ≤ 9223372036854775807 then (if ((t386 ++ (⟨#[32]⟩ : ByteArray)) ++ t387).size + 1 ≤ 9223372036854775807 then (some (((t386 ++ (⟨#[32]⟩ : ByteArray)) ++ t387) ++ (⟨#[10]⟩ : ByteArray))) else (none)) else (none))) else (none))
def laws_shown.T1 : Bool × List (List Nat × List Nat) := (true, [([], []), ([0], [0]), ([1], [1]), ([2], [2]), ([], []), ([4], [4]), ([5, 2], [5]), ([3, 6], [3, 6]), ([7], [7]), ([8, 6, 0, 1, 2, 3, 4, 5, 6, 7, 8], [8])])
def laws_shown.B1 : List Nat := [0, 1, 3, 7, 0, 16, 55, 127, 255, 511]
theorem laws_shown.tab1 : rtab .any (opsOf Tryz.f12 1) = laws_shown.T1 := by kernel_rfl
theorem laws_shown.bits1 : waitsOk laws_shown.T1.2 laws_shown.B1 = true := by kernel_rfl
set_option maxHeartbeats 8000000 in
set_option maxRecDepth 100000 in
theorem laws_shown.calls (k : Nat) (A0_0 : Option Addr) (c0_0 : Nat) (l0_0 : List Int) (A0_1 : Option Addr) (c0_1 : Nat) (l0_1 : List Int) (r : ByteArray) (w : World) (hr0_0 : Kd.C (Kd.int .i64) w A0_0 l0_0.length l0_0) (hc0_0 : l0_0.length ≤ c0_0) (hr0_1 : Kd.C (Kd.int .i64) w A0_1 l0_1.length l0_1) (hc0_1 : l0_1.length ≤ c0_1) (h : laws_shown.f k l0_0 l0_1 = some r) :
    Calls Tryz.prog 12 #[.agg #[.slice A0_0 l0_0.length c0_0, .slice A0_1 l0_1.length c0_1]] w fun e w' => e = .returned (.string r) ∧ Below w.heap.size w w' := by
 have hu25 := Tryz.underlying25; have HR0_0 := A0_ hr0_0; have HC0_0 := A0_ hc0_0; clear hr0_0 hc0_0; have HR0_1 := A0_ hr0_1; have HC0_1 := A0_ hc0_1; clear hr0_1 hc0_1
 have HB := A0_ (Below.refl w.heap.size w)
 have H : ((impl_PermText.f k l0_0).bind fun t386 => (if t386.size + 1 ≤ 9223372036854775807 then ((impl_PermText.f k l0_1).bind fun t387 => (if (t386 ++ (⟨#[32]⟩ : ByteArray)).size + t387.size ≤ 9223372036854775807 then (if ((t386 ++ (⟨#[32]⟩ : ByteArray)) ++ t387).size + 1 ≤ 9223372036854775807 then (some (((t386 ++ (⟨#[32]⟩ : ByteArray)) ++ t387) ++ (⟨#[10]⟩ : ByteArray))) else (none)) else (none))) else (none))) = some r := h
 clear h; obtain ⟨t386, A2, H⟩ := zbind H
 by_cases c3 : t386.size + 1 ≤ 9223372036854775807
 ·rw [if_pos c3] at H
  have c3b0 := eq_true c3; have c3b1 := dT c3
  try have c3b2 : (9223372036854775807 < t386.size + 1) = False := eq_false (Nat.not_lt.2 c3)
  obtain ⟨zs4, hzs4⟩ : ∃ j_ : ByteArray, (t386 ++ (⟨#[32]⟩ : ByteArray)) = j_ := ⟨_, rfl⟩
  replace H : ((impl_PermText.f k l0_1).bind fun t387 => (if zs4.size + t387.size ≤ 9223372036854775807 then (if (zs4 ++ t387).size + 1 ≤ 9223372036854775807 then (some ((zs4 ++ t387) ++ (⟨#[10]⟩ : ByteArray))) else (none)) else (none))) = some r := by first | (rw [hzs4] at H; exact H) | (simp only [hzs4] at H ⊢; exact H) | exact H
  (try rw [hzs4] at A2)
  obtain ⟨t387, A5, H⟩ := zbind H
  by_cases c6 : zs4.size + t387.size ≤ 9223372036854775807
  ·rw [if_pos c6] at H
   have c6b0 := eq_true c6; have c6b1 := dT c6
   try have c6b2 : (9223372036854775807 < zs4.size + t387.size) = False := eq_false (Nat.not_lt.2 c6)
   obtain ⟨zs7, hzs7⟩ : ∃ j_ : ByteArray, (zs4 ++ t387) = j_ := ⟨_, rfl⟩
   replace H : (if zs7.size + 1 ≤ 9223372036854775807 then (some (zs7 ++ (⟨#[10]⟩ : ByteArray))) else (none)) = some r := by first | (rw [hzs7] at H; exact H) | (simp only [hzs7] at H ⊢; exact H) | exact H
   (try rw [hzs7] at A2)
   (try rw [hzs7] at A5)
   by_cases c8 : zs7.size + 1 ≤ 9223372036854775807
   ·rw [if_pos c8] at H
    have c8b0 := eq_true c8; have c8b1 := dT c8
    try have c8b2 : (9223372036854775807 < zs7.size + 1) = False := eq_false (Nat.not_lt.2 c8)
    obtain ⟨zs9, hzs9⟩ : ∃ j_ : ByteArray, (zs7 ++ (⟨#[10]⟩ : ByteArray)) = j_ := ⟨_, rfl⟩
    replace H : (some zs9) = some r := by first | (rw [hzs9] at H; exact H) | (simp only [hzs9] at H ⊢; exact H) | exact H
    (try rw [hzs9] at A2)
    (try rw [hzs9] at A5)
    obtain rfl := sI H
    go_enter Tryz.func12, Tryz.ntmps12
    try go_wp2_with (first | ((with_reducible refine gD (N := 1) rfl ?_); refine zX (N := 1) (cs := #[.slice A0_0 l0_0.length c0_0, .slice A0_1 l0_1.length c0_1]) (t := 25) ?_; intro gb385 hg w10 hbox hb; have BK385 := A0_ (hbox); have GW385 := zG hg HB; have GE385 := zG hg HB; replace HB := zB HB hb; clear hb hbox hg))
    replace BK385 := A0_ (kD BK385.out)
    replace HB := A0_ (bD HB.out)
    refine start_ (n := 10) (S := fun w' => w'.cell? ⟨gb385, 0, none⟩ = some (.slice A0_0 l0_0.length c0_0) ∧ w'.cell? ⟨gb385, 1, none⟩ = some (.slice A0_1 l0_1.length c0_1)) (ds := []) #[false, false, false, false, false, false, false, false, false, false] (by kernel_rfl) rfl rfl ⟨(kC BK385.out 0).trans rfl, (kC BK385.out 1).trans rfl⟩ (fun hHeld => ?_); refine with_tabW laws_shown.tab1 laws_shown.bits1 (fun HT_ HW_ => ?_)
    generalize w10.drew = w11 at BK385 HB hHeld ⊢
    refine zP 0 (some 3) #[true,false,false,false,false,false,false,false,false,false] ?_
    refine zP 4 (some 7) #[true,false,false,false,true,false,false,false,false,false] ?_
    refine take_ (i := 1) (N := some 4) (v := ?_) (a' := ?_) #[true, true, false, false, true, false, false, false, false, false] rfl rfl (take_ofW HT_.out HW_.out (by kernel_rfl)) (fun _ _ _ h => h) (Or.inl ⟨by rfl, ?_⟩) hHeld ?_ ?_
    rotate_left
    ·rintro w' ⟨s0, s1⟩
     go_simp
     with_reducible rfl
    rotate_left
    ·simp only [Act.put, List.setIfInBounds_toArray, List.set_cons_zero, List.set_cons_succ, i64_w, i32_w]
     rfl
    refine take_ (i := 5) (N := some 8) (v := ?_) (a' := ?_) #[true, true, false, false, true, true, false, false, false, false] rfl rfl (take_ofW HT_.out HW_.out (by kernel_rfl)) (fun _ _ _ h => h) (Or.inl ⟨by rfl, ?_⟩) hHeld ?_ ?_
    rotate_left
    ·rintro w' ⟨s0, s1⟩
     go_simp
     with_reducible rfl
    rotate_left
    ·simp only [Act.put, List.setIfInBounds_toArray, List.set_cons_zero, List.set_cons_succ, i64_w, i32_w]
     rfl
    refine one_ (i := 2) (N := some 5) #[true, true, true, false, true, true, false, false, false, false] rfl rfl (one_of HT_.out (by kernel_rfl)) (by decide) (fun K hK => ?_)
    refine goes_ Tryz.func37 (by kernel_rfl) rfl #[.slice A0_0 l0_0.length c0_0] (by rfl) rfl rfl (by (try simp only [List.map_toArray, List.map_cons, List.map_nil]); first | done | rfl | (simp only [List.length_drop, List.length_take]; rfl)) ?_
    with_reducible refine (impl_PermText.calls k _ _ l0_0 t386 _ ?side1 ?side2 A2.out).mono ?_
    (case side1 => exact zC HR0_0 HB)
    (case side2 => exact HC0_0.out)
    rintro e w12 ⟨rfl, hb⟩
    refine ⟨_, rfl, ?_⟩
    replace BK385 := zK BK385 hb; replace HB := zB HB hb; (try clear hb); (try clear hb2); (try clear hk); (try clear hi)
    refine hK.out _ _ ⟨(kC BK385.out 0).trans rfl, (kC BK385.out 1).trans rfl⟩ (fun hHeld => ?_)
    clear hK K
    refine norm_ (a' := ?_) ?_ ?_
    rotate_left
    ·show Act.put _ (some 5) _ = _
     simp only [Act.put, List.setIfInBounds_toArray, List.set_cons_zero, List.set_cons_succ, i64_w, i32_w]
     rfl
    refine zP 3 (some 6) #[true,true,true,true,true,true,false,false,false,false] ?_
    refine one_ (i := 6) (N := some 9) #[true, true, true, true, true, true, true, false, false, false] rfl rfl (one_of HT_.out (by kernel_rfl)) (by decide) (fun K hK => ?_)
    refine goes_ Tryz.func37 (by kernel_rfl) rfl #[.slice A0_1 l0_1.length c0_1] (by rfl) rfl rfl (by (try simp only [List.map_toArray, List.map_cons, List.map_nil]); first | done | rfl | (simp only [List.length_drop, List.length_take]; rfl)) ?_
    with_reducible refine (impl_PermText.calls k _ _ l0_1 t387 _ ?side1 ?side2 A5.out).mono ?_
    (case side1 => exact zC HR0_1 HB)
    (case side2 => exact HC0_1.out)
    rintro e w13 ⟨rfl, hb⟩
    refine ⟨_, rfl, ?_⟩
    replace BK385 := zK BK385 hb; replace HB := zB HB hb; (try clear hb); (try clear hb2); (try clear hk); (try clear hi)
    refine hK.out _ _ ⟨(kC BK385.out 0).trans rfl, (kC BK385.out 1).trans rfl⟩ (fun hHeld => ?_)
    clear hK K
    refine norm_ (a' := ?_) ?_ ?_
    rotate_left
    ·show Act.put _ (some 9) _ = _
     simp only [Act.put, List.setIfInBounds_toArray, List.set_cons_zero, List.set_cons_succ, i64_w, i32_w]
     rfl
    refine zP 7 (some 10) #[true,true,true,true,true,true,true,true,false,false] ?_
    refine zP 8 (some 11) #[true,true,true,true,true,true,true,true,true,false] ?_
    refine zP 9 (some 2) #[true,true,true,true,true,true,true,true,true,true] ?_
    refine done_ (done_of HT_.out (by kernel_rfl)) ?_
    try go_wp2
    go_ret
    exact ⟨by first | rfl | (simp [*] <;> rfl), zB_ HB⟩
   rw [if_neg c8] at H
   exact absurd H (by simp)
  rw [if_neg c6] at H
  exact absurd H (by simp)
 rw [if_neg c3] at H
 exact absurd H (by simp)

/-! ### laws_endLine: function 13 -/
def laws_endLine.f (k : Nat) (a0 : Int) : Option (ByteArray) := (laws_digits.f k a0).bind fun t388 => (if 6 + t388.size ≤ 9223372036854775807 then (if ((⟨#[100, 97, 114, 116, 115, 32]⟩ : ByteArray) ++ t388).size + 1 ≤ 9223372036854775807 then (some (((⟨#[100, 97, 114, 116, 115, 32]⟩ : ByteArray) ++ t388) ++ (⟨#[10]⟩ : ByteArray))) else (none)) else (none))
set_option maxHeartbeats 8000000 in
set_option maxRecDepth 100000 in
theorem laws_endLine.calls (k : Nat) (a0 : Int) (r : ByteArray) (w : World) (h : laws_endLine.f k a0 = some r) :
    Calls Tryz.prog 13 #[.int .i64 a0] w fun e w' => e = .returned (.string r) ∧ Below w.heap.size w w' := by
 have HB := A0_ (Below.refl w.heap.size w)
 have H : ((laws_digits.f k a0).bind fun t388 => (if 6 + t388.size ≤ 9223372036854775807 then (if ((⟨#[100, 97, 114, 116, 115, 32]⟩ : ByteArray) ++ t388).size + 1 ≤ 9223372036854775807 then (some (((⟨#[100, 97, 114, 116, 115, 32]⟩ : ByteArray) ++ t388) ++ (⟨#[10]⟩ : ByteArray))) else (none)) else (none))) = some r := h
 clear h; obtain ⟨t388, A2, H⟩ := zbind H
 by_cases c3 : 6 + t388.size ≤ 9223372036854775807
 ·rw [if_pos c3] at H
  have c3b0 := eq_true c3; have c3b1 := dT c3
  try have c3b2 : (9223372036854775807 < 6 + t388.size) = False := eq_false (Nat.not_lt.2 c3)
  obtain ⟨zs4, hzs4⟩ : ∃ j_ : ByteArray, ((⟨#[100, 97, 114, 116, 115, 32]⟩ : ByteArray) ++ t388) = j_ := ⟨_, rfl⟩
  replace H : (if zs4.size + 1 ≤ 9223372036854775807 then (some (zs4 ++ (⟨#[10]⟩ : ByteArray))) else (none)) = some r := by first | (rw [hzs4] at H; exact H) | (simp only [hzs4] at H ⊢; exact H) | exact H
  (try rw [hzs4] at A2)
  by_cases c5 : zs4.size + 1 ≤ 9223372036854775807
  ·rw [if_pos c5] at H
   have c5b0 := eq_true c5; have c5b1 := dT c5
   try have c5b2 : (9223372036854775807 < zs4.size + 1) = False := eq_false (Nat.not_lt.2 c5)
   obtain ⟨zs6, hzs6⟩ : ∃ j_ : ByteArray, (zs4 ++ (⟨#[10]⟩ : ByteArray)) = j_ := ⟨_, rfl⟩
   replace H : (some zs6) = some r := by first | (rw [hzs6] at H; exact H) | (simp only [hzs6] at H ⊢; exact H) | exact H
   (try rw [hzs6] at A2)
   obtain rfl := sI H
   go_enter Tryz.func13, Tryz.ntmps13
   go_wp2_with (first | ((with_reducible refine gC (f := 17) rfl ?_); refine zJ (some 4) Tryz.func17 #[.int .i64 a0] ?_; (with_reducible refine (laws_digits.calls k a0 t388 _ A2.out).mono ?_); rintro e w7 ⟨rfl, hb⟩; refine ⟨_, rfl, ?_⟩; replace HB := zB HB hb; (try clear hb)))
   go_ret
   exact ⟨by first | rfl | (simp [*] <;> rfl), zB_ HB⟩
  rw [if_neg c5] at H
  exact absurd H (by simp)
 rw [if_neg c3] at H
 exact absurd H (by simp)

end Go.Proofs.YtjebcgbmlbemcaaGreatDoor.PFnExecuteTutte
