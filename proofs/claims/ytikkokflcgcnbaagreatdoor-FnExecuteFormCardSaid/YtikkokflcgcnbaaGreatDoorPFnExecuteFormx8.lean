-- Made by a program of this session (wip/tools) out of the loaded program; not trusted: Lean checks it.
import Derived.Test.YtikkokflcgcnbaaGreatDoorPFnExecuteFormx0
import Derived.Test.YtikkokflcgcnbaaGreatDoorPFnExecuteFormx5
import Derived.Test.YtikkokflcgcnbaaGreatDoorPFnExecuteFormx7
-- packed
namespace Go.Proofs.YtikkokflcgcnbaaGreatDoor.PFnExecuteForm
open Go.RowKit Go.Proofs.YtikkokflcgcnbaaGreatDoorW.PrintWords Go.Proofs.YtikkokflcgcnbaaGreatDoorW.PrintLast Go.Proofs.YtikkokflcgcnbaaGreatDoorW.PrintMore
attribute [local go_sem] max2_int min2_int max_two min_two max_three min_three max_four min_four   -- for this text's walks alone
set_option linter.unusedVariables false
set_option linter.unusedSimpArgs false

/-! ### laws_mapLine: function 12 -/
def laws_mapLine.f (k : Nat) (l0_0 : List Int) (l0_1 : List Int) : Option (ByteArray) := (laws_digits.f k (l0_0.length : Int)).bind fun t253 => (if 4 + t253.size ≤ 9223372036854775807 then (if ((⟨#[109, 97, 112, 32]⟩ : ByteArray) ++ t253).size + 1 ≤ 9223372036854775807 then ((impl_PermText.f k l0_0).bind fun t254 => (if (((⟨#[109, 97, 112, 32]⟩ : ByteArray) ++ t253) ++ (⟨#[32]⟩ : ByteArray)).size + t254.size ≤ 9223372036854775807 then (if ((((⟨#[109, 97, 112, 32]⟩ : ByteArray) ++ t253) ++ (⟨#[32]⟩ : ByteArray)) ++ t254).size + 1 ≤ 9223372036854775807 then ((impl_PermText.f k l0_1).bind fun t255 => (if (((((⟨#[109, 97, 112, 32]⟩ : ByteArray) ++ t253) ++ (⟨#[32]⟩ : ByteArray)) ++ t254) ++ (⟨#[32]⟩ : ByteArray)).size + t255.size ≤ 9223372036854775807 then (if ((((((⟨#[109, 97, 112, 32]⟩ : ByteArray) ++ t253) ++ (⟨#[32]⟩ : ByteArray)) ++ t254) ++ (⟨#[32]⟩ : ByteArray)) ++ t255).size + 1 ≤ 9223372036854775807 then (some (((((((⟨#[109, 97, 112, 32]⟩ : ByteArray) ++ t253) ++ (⟨#[32]⟩ : ByteArray)) ++ t254) ++ (⟨#[32]⟩ : ByteArray)) ++ t255) ++ (⟨#[10]⟩ : ByteArray))) else (none)) else (none))) else (none)) else (none))) else (none)) else (none))
def laws_mapLine.T1 : Bool × List (List Nat × List Nat) := (true, [([], []), ([0], [0]), ([1], [1]), ([2], [2]), ([3], [3]), ([4], [4]), ([], []), ([6], [6]), ([7, 3], [7]), ([5, 8], [5, 8]), ([9], [9]), ([], []), ([11], [11]), ([12, 8], [12]), ([10, 13], [10, 13]), ([14], [14]), ([15, 13, 0, 1, 2, 3, 4, 5, 6, 7, 8, 9, 10, 11, 12, 13, 14, 15], [15])])
def laws_mapLine.B1 : List Nat := [0, 1, 3, 7, 15, 31, 0, 64, 207, 511, 1023, 0, 2048, 6607, 16383, 32767, 65535]
theorem laws_mapLine.tab1 : rtab .any (opsOf Tryz.f12 1) = laws_mapLine.T1 := by kernel_rfl
theorem laws_mapLine.bits1 : waitsOk laws_mapLine.T1.2 laws_mapLine.B1 = true := by kernel_rfl
set_option maxHeartbeats 8000000 in
set_option maxRecDepth 100000 in
theorem laws_mapLine.calls (k : Nat) (A0_0 : Option Addr) (c0_0 : Nat) (l0_0 : List Int) (A0_1 : Option Addr) (c0_1 : Nat) (l0_1 : List Int) (r : ByteArray) (w : World) (hr0_0 : Kd.C (Kd.int .i64) w A0_0 l0_0.length l0_0) (hc0_0 : l0_0.length ≤ c0_0) (hr0_1 : Kd.C (Kd.int .i64) w A0_1 l0_1.length l0_1) (hc0_1 : l0_1.length ≤ c0_1) (h : laws_mapLine.f k l0_0 l0_1 = some r) :
    Calls Tryz.prog 12 #[.agg #[.slice A0_0 l0_0.length c0_0, .slice A0_1 l0_1.length c0_1]] w fun e w' => e = .returned (.string r) ∧ Below w.heap.size w w' := by
 have hu25 := Tryz.underlying25; have HR0_0 := A0_ hr0_0; have HC0_0 := A0_ hc0_0; clear hr0_0 hc0_0; have HR0_1 := A0_ hr0_1; have HC0_1 := A0_ hc0_1; clear hr0_1 hc0_1
 have HB := A0_ (Below.refl w.heap.size w)
 have H : ((laws_digits.f k (l0_0.length : Int)).bind fun t253 => (if 4 + t253.size ≤ 9223372036854775807 then (if ((⟨#[109, 97, 112, 32]⟩ : ByteArray) ++ t253).size + 1 ≤ 9223372036854775807 then ((impl_PermText.f k l0_0).bind fun t254 => (if (((⟨#[109, 97, 112, 32]⟩ : ByteArray) ++ t253) ++ (⟨#[32]⟩ : ByteArray)).size + t254.size ≤ 9223372036854775807 then (if ((((⟨#[109, 97, 112, 32]⟩ : ByteArray) ++ t253) ++ (⟨#[32]⟩ : ByteArray)) ++ t254).size + 1 ≤ 9223372036854775807 then ((impl_PermText.f k l0_1).bind fun t255 => (if (((((⟨#[109, 97, 112, 32]⟩ : ByteArray) ++ t253) ++ (⟨#[32]⟩ : ByteArray)) ++ t254) ++ (⟨#[32]⟩ : ByteArray)).size + t255.size ≤ 9223372036854775807 then (if ((((((⟨#[109, 97, 112, 32]⟩ : ByteArray) ++ t253) ++ (⟨#[32]⟩ : ByteArray)) ++ t254) ++ (⟨#[32]⟩ : ByteArray)) ++ t255).size + 1 ≤ 9223372036854775807 then (some (((((((⟨#[109, 97, 112, 32]⟩ : ByteArray) ++ t253) ++ (⟨#[32]⟩ : ByteArray)) ++ t254) ++ (⟨#[32]⟩ : ByteArray)) ++ t255) ++ (⟨#[10]⟩ : ByteArray))) else (none)) else (none))) else (none)) else (none))) else (none)) else (none))) = some r := h
 clear h; obtain ⟨t253, A2, H⟩ := zbind H
 by_cases c3 : 4 + t253.size ≤ 9223372036854775807
 ·rw [if_pos c3] at H
  have c3b0 := eq_true c3; have c3b1 := dT c3
  try have c3b2 : (9223372036854775807 < 4 + t253.size) = False := eq_false (Nat.not_lt.2 c3)
  obtain ⟨zs4, hzs4⟩ : ∃ j_ : ByteArray, ((⟨#[109, 97, 112, 32]⟩ : ByteArray) ++ t253) = j_ := ⟨_, rfl⟩
  replace H : (if zs4.size + 1 ≤ 9223372036854775807 then ((impl_PermText.f k l0_0).bind fun t254 => (if (zs4 ++ (⟨#[32]⟩ : ByteArray)).size + t254.size ≤ 9223372036854775807 then (if ((zs4 ++ (⟨#[32]⟩ : ByteArray)) ++ t254).size + 1 ≤ 9223372036854775807 then ((impl_PermText.f k l0_1).bind fun t255 => (if (((zs4 ++ (⟨#[32]⟩ : ByteArray)) ++ t254) ++ (⟨#[32]⟩ : ByteArray)).size + t255.size ≤ 9223372036854775807 then (if ((((zs4 ++ (⟨#[32]⟩ : ByteArray)) ++ t254) ++ (⟨#[32]⟩ : ByteArray)) ++ t255).size + 1 ≤ 9223372036854775807 then (some (((((zs4 ++ (⟨#[32]⟩ : ByteArray)) ++ t254) ++ (⟨#[32]⟩ : ByteArray)) ++ t255) ++ (⟨#[10]⟩ : ByteArray))) else (none)) else (none))) else (none)) else (none))) else (none)) = some r := by first | (rw [hzs4] at H; exact H) | (simp only [hzs4] at H ⊢; exact H) | exact H
  (try rw [hzs4] at A2)
  by_cases c5 : zs4.size + 1 ≤ 9223372036854775807
  ·rw [if_pos c5] at H
   have c5b0 := eq_true c5; have c5b1 := dT c5
   try have c5b2 : (9223372036854775807 < zs4.size + 1) = False := eq_false (Nat.not_lt.2 c5)
   obtain ⟨zs6, hzs6⟩ : ∃ j_ : ByteArray, (zs4 ++ (⟨#[32]⟩ : ByteArray)) = j_ := ⟨_, rfl⟩
   replace H : ((impl_PermText.f k l0_0).bind fun t254 => (if zs6.size + t254.size ≤ 9223372036854775807 then (if (zs6 ++ t254).size + 1 ≤ 9223372036854775807 then ((impl_PermText.f k l0_1).bind fun t255 => (if ((zs6 ++ t254) ++ (⟨#[32]⟩ : ByteArray)).size + t255.size ≤ 9223372036854775807 then (if (((zs6 ++ t254) ++ (⟨#[32]⟩ : ByteArray)) ++ t255).size + 1 ≤ 9223372036854775807 then (some ((((zs6 ++ t254) ++ (⟨#[32]⟩ : ByteArray)) ++ t255) ++ (⟨#[10]⟩ : ByteArray))) else (none)) else (none))) else (none)) else (none))) = some r := by first | (rw [hzs6] at H; exact H) | (simp only [hzs6] at H ⊢; exact H) | exact H
   (try rw [hzs6] at A2)
   obtain ⟨t254, A7, H⟩ := zbind H
   by_cases c8 : zs6.size + t254.size ≤ 9223372036854775807
   ·rw [if_pos c8] at H
    have c8b0 := eq_true c8; have c8b1 := dT c8
    try have c8b2 : (9223372036854775807 < zs6.size + t254.size) = False := eq_false (Nat.not_lt.2 c8)
    obtain ⟨zs9, hzs9⟩ : ∃ j_ : ByteArray, (zs6 ++ t254) = j_ := ⟨_, rfl⟩
    replace H : (if zs9.size + 1 ≤ 9223372036854775807 then ((impl_PermText.f k l0_1).bind fun t255 => (if (zs9 ++ (⟨#[32]⟩ : ByteArray)).size + t255.size ≤ 9223372036854775807 then (if ((zs9 ++ (⟨#[32]⟩ : ByteArray)) ++ t255).size + 1 ≤ 9223372036854775807 then (some (((zs9 ++ (⟨#[32]⟩ : ByteArray)) ++ t255) ++ (⟨#[10]⟩ : ByteArray))) else (none)) else (none))) else (none)) = some r := by first | (rw [hzs9] at H; exact H) | (simp only [hzs9] at H ⊢; exact H) | exact H
    (try rw [hzs9] at A2)
    (try rw [hzs9] at A7)
    by_cases c10 : zs9.size + 1 ≤ 9223372036854775807
    ·rw [if_pos c10] at H
     have c10b0 := eq_true c10; have c10b1 := dT c10
     try have c10b2 : (9223372036854775807 < zs9.size + 1) = False := eq_false (Nat.not_lt.2 c10)
     obtain ⟨zs11, hzs11⟩ : ∃ j_ : ByteArray, (zs9 ++ (⟨#[32]⟩ : ByteArray)) = j_ := ⟨_, rfl⟩
     replace H : ((impl_PermText.f k l0_1).bind fun t255 => (if zs11.size + t255.size ≤ 9223372036854775807 then (if (zs11 ++ t255).size + 1 ≤ 9223372036854775807 then (some ((zs11 ++ t255) ++ (⟨#[10]⟩ : ByteArray))) else (none)) else (none))) = some r := by first | (rw [hzs11] at H; exact H) | (simp only [hzs11] at H ⊢; exact H) | exact H
     (try rw [hzs11] at A2)
     (try rw [hzs11] at A7)
     obtain ⟨t255, A12, H⟩ := zbind H
     by_cases c13 : zs11.size + t255.size ≤ 9223372036854775807
     ·rw [if_pos c13] at H
      have c13b0 := eq_true c13; have c13b1 := dT c13
      try have c13b2 : (9223372036854775807 < zs11.size + t255.size) = False := eq_false (Nat.not_lt.2 c13)
      obtain ⟨zs14, hzs14⟩ : ∃ j_ : ByteArray, (zs11 ++ t255) = j_ := ⟨_, rfl⟩
      replace H : (if zs14.size + 1 ≤ 9223372036854775807 then (some (zs14 ++ (⟨#[10]⟩ : ByteArray))) else (none)) = some r := by first | (rw [hzs14] at H; exact H) | (simp only [hzs14] at H ⊢; exact H) | exact H
      (try rw [hzs14] at A2)
      (try rw [hzs14] at A7)
      (try rw [hzs14] at A12)
      by_cases c15 : zs14.size + 1 ≤ 9223372036854775807
      ·rw [if_pos c15] at H
       have c15b0 := eq_true c15; have c15b1 := dT c15
       try have c15b2 : (9223372036854775807 < zs14.size + 1) = False := eq_false (Nat.not_lt.2 c15)
       obtain ⟨zs16, hzs16⟩ : ∃ j_ : ByteArray, (zs14 ++ (⟨#[10]⟩ : ByteArray)) = j_ := ⟨_, rfl⟩
       replace H : (some zs16) = some r := by first | (rw [hzs16] at H; exact H) | (simp only [hzs16] at H ⊢; exact H) | exact H
       (try rw [hzs16] at A2)
       (try rw [hzs16] at A7)
       (try rw [hzs16] at A12)
       obtain rfl := sI H
       go_enter Tryz.func12, Tryz.ntmps12
       try go_wp2_with (first | ((with_reducible refine gD (N := 1) rfl ?_); refine zX (N := 1) (cs := #[.slice A0_0 l0_0.length c0_0, .slice A0_1 l0_1.length c0_1]) (t := 25) ?_; intro gb252 hg w17 hbox hb; have BK252 := A0_ (hbox); have GW252 := zG hg HB; have GE252 := zG hg HB; replace HB := zB HB hb; clear hb hbox hg))
       replace BK252 := A0_ (kD BK252.out)
       replace HB := A0_ (bD HB.out)
       refine start_ (n := 17) (S := fun w' => w'.cell? ⟨gb252, 0, none⟩ = some (.slice A0_0 l0_0.length c0_0) ∧ w'.cell? ⟨gb252, 1, none⟩ = some (.slice A0_1 l0_1.length c0_1)) (ds := []) #[false, false, false, false, false, false, false, false, false, false, false, false, false, false, false, false, false] (by kernel_rfl) rfl rfl ⟨(kC BK252.out 0).trans rfl, (kC BK252.out 1).trans rfl⟩ (fun hHeld => ?_); refine with_tabW laws_mapLine.tab1 laws_mapLine.bits1 (fun HT_ HW_ => ?_)
       generalize w17.drew = w18 at BK252 HB hHeld ⊢
       refine zP 0 (some 3) #[true,false,false,false,false,false,false,false,false,false,false,false,false,false,false,false,false] ?_
       refine zP 6 (some 9) #[true,false,false,false,false,false,true,false,false,false,false,false,false,false,false,false,false] ?_
       refine zP 11 (some 14) #[true,false,false,false,false,false,true,false,false,false,false,true,false,false,false,false,false] ?_
       refine take_ (i := 1) (N := some 4) (v := ?_) (a' := ?_) #[true, true, false, false, false, false, true, false, false, false, false, true, false, false, false, false, false] rfl rfl (take_ofW HT_.out HW_.out (by kernel_rfl)) (fun _ _ _ h => h) (Or.inl ⟨by rfl, ?_⟩) hHeld ?_ ?_
       rotate_left
       ·rintro w' ⟨s0, s1⟩
        go_simp
        with_reducible rfl
       rotate_left
       ·simp only [Act.put, List.setIfInBounds_toArray, List.set_cons_zero, List.set_cons_succ, i64_w, i32_w]
        rfl
       refine zP 2 (some 5) #[true,true,true,false,false,false,true,false,false,false,false,true,false,false,false,false,false] ?_
       refine take_ (i := 7) (N := some 10) (v := ?_) (a' := ?_) #[true, true, true, false, false, false, true, true, false, false, false, true, false, false, false, false, false] rfl rfl (take_ofW HT_.out HW_.out (by kernel_rfl)) (fun _ _ _ h => h) (Or.inl ⟨by rfl, ?_⟩) hHeld ?_ ?_
       rotate_left
       ·rintro w' ⟨s0, s1⟩
        go_simp
        with_reducible rfl
       rotate_left
       ·simp only [Act.put, List.setIfInBounds_toArray, List.set_cons_zero, List.set_cons_succ, i64_w, i32_w]
        rfl
       refine take_ (i := 12) (N := some 15) (v := ?_) (a' := ?_) #[true, true, true, false, false, false, true, true, false, false, false, true, true, false, false, false, false] rfl rfl (take_ofW HT_.out HW_.out (by kernel_rfl)) (fun _ _ _ h => h) (Or.inl ⟨by rfl, ?_⟩) hHeld ?_ ?_
       rotate_left
       ·rintro w' ⟨s0, s1⟩
        go_simp
        with_reducible rfl
       rotate_left
       ·simp only [Act.put, List.setIfInBounds_toArray, List.set_cons_zero, List.set_cons_succ, i64_w, i32_w]
        rfl
       refine one_ (i := 3) (N := some 6) #[true, true, true, true, false, false, true, true, false, false, false, true, true, false, false, false, false] rfl rfl (one_of HT_.out (by kernel_rfl)) (by decide) (fun K hK => ?_)
       refine goes_ Tryz.func22 (by kernel_rfl) rfl #[.int .i64 (l0_0.length : Int)] (by rfl) rfl rfl (by (try simp only [List.map_toArray, List.map_cons, List.map_nil]); first | done | rfl | (simp only [List.length_drop, List.length_take]; rfl)) ?_
       with_reducible refine (laws_digits.calls k (l0_0.length : Int) t253 _ A2.out).mono ?_
       rintro e w19 ⟨rfl, hb⟩
       refine ⟨_, rfl, ?_⟩
       replace BK252 := zK BK252 hb; replace HB := zB HB hb; (try clear hb); (try clear hb2); (try clear hk); (try clear hi)
       refine hK.out _ _ ⟨(kC BK252.out 0).trans rfl, (kC BK252.out 1).trans rfl⟩ (fun hHeld => ?_)
       clear hK K
       refine norm_ (a' := ?_) ?_ ?_
       rotate_left
       ·show Act.put _ (some 6) _ = _
        simp only [Act.put, List.setIfInBounds_toArray, List.set_cons_zero, List.set_cons_succ, i64_w, i32_w]
        rfl
       refine zP 4 (some 7) #[true,true,true,true,true,false,true,true,false,false,false,true,true,false,false,false,false] ?_
       refine zP 5 (some 8) #[true,true,true,true,true,true,true,true,false,false,false,true,true,false,false,false,false] ?_
       refine one_ (i := 8) (N := some 11) #[true, true, true, true, true, true, true, true, true, false, false, true, true, false, false, false, false] rfl rfl (one_of HT_.out (by kernel_rfl)) (by decide) (fun K hK => ?_)
       refine goes_ Tryz.func40 (by kernel_rfl) rfl #[.slice A0_0 l0_0.length c0_0] (by rfl) rfl rfl (by (try simp only [List.map_toArray, List.map_cons, List.map_nil]); first | done | rfl | (simp only [List.length_drop, List.length_take]; rfl)) ?_
       with_reducible refine (impl_PermText.calls k _ _ l0_0 t254 _ ?side1 ?side2 A7.out).mono ?_
       (case side1 => exact zC HR0_0 HB)
       (case side2 => exact HC0_0.out)
       rintro e w20 ⟨rfl, hb⟩
       refine ⟨_, rfl, ?_⟩
       replace BK252 := zK BK252 hb; replace HB := zB HB hb; (try clear hb); (try clear hb2); (try clear hk); (try clear hi)
       refine hK.out _ _ ⟨(kC BK252.out 0).trans rfl, (kC BK252.out 1).trans rfl⟩ (fun hHeld => ?_)
       clear hK K
       refine norm_ (a' := ?_) ?_ ?_
       rotate_left
       ·show Act.put _ (some 11) _ = _
        simp only [Act.put, List.setIfInBounds_toArray, List.set_cons_zero, List.set_cons_succ, i64_w, i32_w]
        rfl
       refine zP 9 (some 12) #[true,true,true,true,true,true,true,true,true,true,false,true,true,false,false,false,false] ?_
       refine zP 10 (some 13) #[true,true,true,true,true,true,true,true,true,true,true,true,true,false,false,false,false] ?_
       refine one_ (i := 13) (N := some 16) #[true, true, true, true, true, true, true, true, true, true, true, true, true, true, false, false, false] rfl rfl (one_of HT_.out (by kernel_rfl)) (by decide) (fun K hK => ?_)
       refine goes_ Tryz.func40 (by kernel_rfl) rfl #[.slice A0_1 l0_1.length c0_1] (by rfl) rfl rfl (by (try simp only [List.map_toArray, List.map_cons, List.map_nil]); first | done | rfl | (simp only [List.length_drop, List.length_take]; rfl)) ?_
       with_reducible refine (impl_PermText.calls k _ _ l0_1 t255 _ ?side1 ?side2 A12.out).mono ?_
       (case side1 => exact zC HR0_1 HB)
       (case side2 => exact HC0_1.out)
       rintro e w21 ⟨rfl, hb⟩
       refine ⟨_, rfl, ?_⟩
       replace BK252 := zK BK252 hb; replace HB := zB HB hb; (try clear hb); (try clear hb2); (try clear hk); (try clear hi)
       refine hK.out _ _ ⟨(kC BK252.out 0).trans rfl, (kC BK252.out 1).trans rfl⟩ (fun hHeld => ?_)
       clear hK K
       refine norm_ (a' := ?_) ?_ ?_
       rotate_left
       ·show Act.put _ (some 16) _ = _
        simp only [Act.put, List.setIfInBounds_toArray, List.set_cons_zero, List.set_cons_succ, i64_w, i32_w]
        rfl
       refine zP 14 (some 17) #[true,true,true,true,true,true,true,true,true,true,true,true,true,true,true,false,false] ?_
       refine zP 15 (some 18) #[true,true,true,true,true,true,true,true,true,true,true,true,true,true,true,true,false] ?_
       refine zP 16 (some 2) #[true,true,true,true,true,true,true,true,true,true,true,true,true,true,true,true,true] ?_
       refine done_ (done_of HT_.out (by kernel_rfl)) ?_
       try go_wp2
       go_ret
       exact ⟨by first | rfl | (simp [*] <;> rfl), zB_ HB⟩
      rw [if_neg c15] at H
      exact absurd H (by simp)
     rw [if_neg c13] at H
     exact absurd H (by simp)
    rw [if_neg c10] at H
    exact absurd H (by simp)
   rw [if_neg c8] at H
   exact absurd H (by simp)
  rw [if_neg c5] at H
  exact absurd H (by simp)
 rw [if_neg c3] at H
 exact absurd H (by simp)

/-! ### laws_shown: function 13 -/
def laws_shown.f (k : Nat) (l0_0 : List Int) (l0_1 : List Int) : Option (ByteArray) := (impl_PermText.f k l0_0).bind fun t257 => (if t257.size + 1 ≤ 9223372036854775807 then ((impl_PermText.f k l0_1).bind fun t258 => (if (t257 ++ (⟨#[32]⟩ : ByteArray)).size + t258.size ≤ 9223372036854775807 then (if ((t257 ++ (⟨#[32]⟩ : ByteArray)) ++ t258).size + 1 ≤ 9223372036854775807 then (some (((t257 ++ (⟨#[32]⟩ : ByteArray)) ++ t258) ++ (⟨#[10]⟩ : ByteArray))) else (none)) else (none))) else (none))
def laws_shown.T1 : Bool × List (List Nat × List Nat) := (true, [([], []), ([0], [0]), ([1], [1]), ([2], [2]), ([], []), ([4], [4]), ([5, 2], [5]), ([3, 6], [3, 6]), ([7], [7]), ([8, 6, 0, 1, 2, 3, 4, 5, 6, 7, 8], [8])])
def laws_shown.B1 : List Nat := [0, 1, 3, 7, 0, 16, 55, 127, 255, 511]
theorem laws_shown.tab1 : rtab .any (opsOf Tryz.f13 1) = laws_shown.T1 := by kernel_rfl
theorem laws_shown.bits1 : waitsOk laws_shown.T1.2 laws_shown.B1 = true := by kernel_rfl
set_option maxHeartbeats 8000000 in
set_option maxRecDepth 100000 in
theorem laws_shown.calls (k : Nat) (A0_0 : Option Addr) (c0_0 : Nat) (l0_0 : List Int) (A0_1 : Option Addr) (c0_1 : Nat) (l0_1 : List Int) (r : ByteArray) (w : World) (hr0_0 : Kd.C (Kd.int .i64) w A0_0 l0_0.length l0_0) (hc0_0 : l0_0.length ≤ c0_0) (hr0_1 : Kd.C (Kd.int .i64) w A0_1 l0_1.length l0_1) (hc0_1 : l0_1.length ≤ c0_1) (h : laws_shown.f k l0_0 l0_1 = some r) :
    Calls Tryz.prog 13 #[.agg #[.slice A0_0 l0_0.length c0_0, .slice A0_1 l0_1.length c0_1]] w fun e w' => e = .returned (.string r) ∧ Below w.heap.size w w' := by
 have hu25 := Tryz.underlying25; have HR0_0 := A0_ hr0_0; have HC0_0 := A0_ hc0_0; clear hr0_0 hc0_0; have HR0_1 := A0_ hr0_1; have HC0_1 := A0_ hc0_1; clear hr0_1 hc0_1
 have HB := A0_ (Below.refl w.heap.size w)
 have H : ((impl_PermText.f k l0_0).bind fun t257 => (if t257.size + 1 ≤ 9223372036854775807 then ((impl_PermText.f k l0_1).bind fun t258 => (if (t257 ++ (⟨#[32]⟩ : ByteArray)).size + t258.size ≤ 9223372036854775807 then (if ((t257 ++ (⟨#[32]⟩ : ByteArray)) ++ t258).size + 1 ≤ 9223372036854775807 then (some (((t257 ++ (⟨#[32]⟩ : ByteArray)) ++ t258) ++ (⟨#[10]⟩ : ByteArray))) else (none)) else (none))) else (none))) = some r := h
 clear h; obtain ⟨t257, A2, H⟩ := zbind H
 by_cases c3 : t257.size + 1 ≤ 9223372036854775807
 ·rw [if_pos c3] at H
  have c3b0 := eq_true c3; have c3b1 := dT c3
  try have c3b2 : (9223372036854775807 < t257.size + 1) = False := eq_false (Nat.not_lt.2 c3)
  obtain ⟨zs4, hzs4⟩ : ∃ j_ : ByteArray, (t257 ++ (⟨#[32]⟩ : ByteArray)) = j_ := ⟨_, rfl⟩
  replace H : ((impl_PermText.f k l0_1).bind fun t258 => (if zs4.size + t258.size ≤ 9223372036854775807 then (if (zs4 ++ t258).size + 1 ≤ 9223372036854775807 then (some ((zs4 ++ t258) ++ (⟨#[10]⟩ : ByteArray))) else (none)) else (none))) = some r := by first | (rw [hzs4] at H; exact H) | (simp only [hzs4] at H ⊢; exact H) | exact H
  (try rw [hzs4] at A2)
  obtain ⟨t258, A5, H⟩ := zbind H
  by_cases c6 : zs4.size + t258.size ≤ 9223372036854775807
  ·rw [if_pos c6] at H
   have c6b0 := eq_true c6; have c6b1 := dT c6
   try have c6b2 : (9223372036854775807 < zs4.size + t258.size) = False := eq_false (Nat.not_lt.2 c6)
   obtain ⟨zs7, hzs7⟩ : ∃ j_ : ByteArray, (zs4 ++ t258) = j_ := ⟨_, rfl⟩
   replace H : (if zs7.size + 1 ≤ 9223372036854775807 then (some (zs7 ++ (⟨#[10]⟩ : ByteArray))) else (none)) = some r := by first | (rw [hzs7] at H; exact H) | (simp only [hzs7] at H ⊢; exact H) | exact H
   (try rw [hzs7] at A2)
   (try rw [hzs7] at A5)
   by_cases c8 : zs7.size + 1 ≤ 9223372036854775807
   ·rw [if_pos c8] at H
    have c8b0 := eq_true c8; have c8b1 := dT c8
    try have c8b2 : (9223372036854775807 < zs7.size + 1) = False := eq_false (Nat.not_lt.2 c8)
    obtain ⟨zs9, hzs9⟩ : ∃ j_ : ByteArray, (zs7 ++ (⟨#[10]⟩ : ByteArray)) = j_ := ⟨_, rfl⟩
    replace H : (some zs9) = some r := by first | (rw [hzs9] at H; exact H) | (simp only [hzs9] at H ⊢; exact H) | exact H
    (try rw [hzs9] at A2)
    (try rw [hzs9] at A5)
    obtain rfl := sI H
    go_enter Tryz.func13, Tryz.ntmps13
    try go_wp2_with (first | ((with_reducible refine gD (N := 1) rfl ?_); refine zX (N := 1) (cs := #[.slice A0_0 l0_0.length c0_0, .slice A0_1 l0_1.length c0_1]) (t := 25) ?_; intro gb256 hg w10 hbox hb; have BK256 := A0_ (hbox); have GW256 := zG hg HB; have GE256 := zG hg HB; replace HB := zB HB hb; clear hb hbox hg))
    replace BK256 := A0_ (kD BK256.out)
    replace HB := A0_ (bD HB.out)
    refine start_ (n := 10) (S := fun w' => w'.cell? ⟨gb256, 0, none⟩ = some (.slice A0_0 l0_0.length c0_0) ∧ w'.cell? ⟨gb256, 1, none⟩ = some (.slice A0_1 l0_1.length c0_1)) (ds := []) #[false, false, false, false, false, false, false, false, false, false] (by kernel_rfl) rfl rfl ⟨(kC BK256.out 0).trans rfl, (kC BK256.out 1).trans rfl⟩ (fun hHeld => ?_); refine with_tabW laws_shown.tab1 laws_shown.bits1 (fun HT_ HW_ => ?_)
    generalize w10.drew = w11 at BK256 HB hHeld ⊢
    refine zP 0 (some 3) #[true,false,false,false,false,false,false,false,false,false] ?_
    refine zP 4 (some 7) #[true,false,false,false,true,false,false,false,false,false] ?_
    refine take_ (i := 1) (N := some 4) (v := ?_) (a' := ?_) #[true, true, false, false, true, false, false, false, false, false] rfl rfl (take_ofW HT_.out HW_.out (by kernel_rfl)) (fun _ _ _ h => h) (Or.inl ⟨by rfl, ?_⟩) hHeld ?_ ?_
    rotate_left
    ·rintro w' ⟨s0, s1⟩
     go_simp
     with_reducible rfl
    rotate_left
    ·simp only [Act.put, List.setIfInBounds_toArray, List.set_cons_zero, List.set_cons_succ, i64_w, i32_w]
     rfl
    refine take_ (i := 5) (N := some 8) (v := ?_) (a' := ?_) #[true, true, false, false, true, true, false, false, false, false] rfl rfl (take_ofW HT_.out HW_.out (by kernel_rfl)) (fun _ _ _ h => h) (Or.inl ⟨by rfl, ?_⟩) hHeld ?_ ?_
    rotate_left
    ·rintro w' ⟨s0, s1⟩
     go_simp
     with_reducible rfl
    rotate_left
    ·simp only [Act.put, List.setIfInBounds_toArray, List.set_cons_zero, List.set_cons_succ, i64_w, i32_w]
     rfl
    refine one_ (i := 2) (N := some 5) #[true, true, true, false, true, true, false, false, false, false] rfl rfl (one_of HT_.out (by kernel_rfl)) (by decide) (fun K hK => ?_)
    refine goes_ Tryz.func40 (by kernel_rfl) rfl #[.slice A0_0 l0_0.length c0_0] (by rfl) rfl rfl (by (try simp only [List.map_toArray, List.map_cons, List.map_nil]); first | done | rfl | (simp only [List.length_drop, List.length_take]; rfl)) ?_
    with_reducible refine (impl_PermText.calls k _ _ l0_0 t257 _ ?side1 ?side2 A2.out).mono ?_
    (case side1 => exact zC HR0_0 HB)
    (case side2 => exact HC0_0.out)
    rintro e w12 ⟨rfl, hb⟩
    refine ⟨_, rfl, ?_⟩
    replace BK256 := zK BK256 hb; replace HB := zB HB hb; (try clear hb); (try clear hb2); (try clear hk); (try clear hi)
    refine hK.out _ _ ⟨(kC BK256.out 0).trans rfl, (kC BK256.out 1).trans rfl⟩ (fun hHeld => ?_)
    clear hK K
    refine norm_ (a' := ?_) ?_ ?_
    rotate_left
    ·show Act.put _ (some 5) _ = _
     simp only [Act.put, List.setIfInBounds_toArray, List.set_cons_zero, List.set_cons_succ, i64_w, i32_w]
     rfl
    refine zP 3 (some 6) #[true,true,true,true,true,true,false,false,false,false] ?_
    refine one_ (i := 6) (N := some 9) #[true, true, true, true, true, true, true, false, false, false] rfl rfl (one_of HT_.out (by kernel_rfl)) (by decide) (fun K hK => ?_)
    refine goes_ Tryz.func40 (by kernel_rfl) rfl #[.slice A0_1 l0_1.length c0_1] (by rfl) rfl rfl (by (try simp only [List.map_toArray, List.map_cons, List.map_nil]); first | done | rfl | (simp only [List.length_drop, List.length_take]; rfl)) ?_
    with_reducible refine (impl_PermText.calls k _ _ l0_1 t258 _ ?side1 ?side2 A5.out).mono ?_
    (case side1 => exact zC HR0_1 HB)
    (case side2 => exact HC0_1.out)
    rintro e w13 ⟨rfl, hb⟩
    refine ⟨_, rfl, ?_⟩
    replace BK256 := zK BK256 hb; replace HB := zB HB hb; (try clear hb); (try clear hb2); (try clear hk); (try clear hi)
    refine hK.out _ _ ⟨(kC BK256.out 0).trans rfl, (kC BK256.out 1).trans rfl⟩ (fun hHeld => ?_)
    clear hK K
    refine norm_ (a' := ?_) ?_ ?_
    rotate_left
    ·show Act.put _ (some 9) _ = _
     simp only [Act.put, List.setIfInBounds_toArray, List.set_cons_zero, List.set_cons_succ, i64_w, i32_w]
     rfl
    refine zP 7 (some 10) #[true,true,true,true,true,true,true,true,false,false] ?_
    refine zP 8 (some 11) #[true,true,true,true,true,true,true,true,true,false] ?_
    refine zP 9 (some 2) #[true,true,true,true,true,true,true,true,true,true] ?_
    refine done_ (done_of HT_.out (by kernel_rfl)) ?_
    try go_wp2
    go_ret
    exact ⟨by first | rfl | (simp [*] <;> rfl), zB_ HB⟩
   rw [if_neg c8] at H
   exact absurd H (by simp)
  rw [if_neg c6] at H
  exact absurd H (by simp)
 rw [if_neg c3] at H
 exact absurd H (by simp)

/-! ### laws_endLine: function 14 -/
def laws_endLine.f (k : Nat) (a0 : Int) : Option (ByteArray) := (laws_digits.f k a0).bind fun t259 => (if 6 + t259.size ≤ 9223372036854775807 then (if ((⟨#[100, 97, 114, 116, 115, 32]⟩ : ByteArray) ++ t259).size + 1 ≤ 9223372036854775807 then (some (((⟨#[100, 97, 114, 116, 115, 32]⟩ : ByteArray) ++ t259) ++ (⟨#[10]⟩ : ByteArray))) else (none)) else (none))
set_option maxHeartbeats 8000000 in
set_option maxRecDepth 100000 in
theorem laws_endLine.calls (k : Nat) (a0 : Int) (r : ByteArray) (w : World) (h : laws_endLine.f k a0 = some r) :
    Calls Tryz.prog 14 #[.int .i64 a0] w fun e w' => e = .returned (.string r) ∧ Below w.heap.size w w' := by
 have HB := A0_ (Below.refl w.heap.size w)
 have H : ((laws_digits.f k a0).bind fun t259 => (if 6 + t259.size ≤ 9223372036854775807 then (if ((⟨#[100, 97, 114, 116, 115, 32]⟩ : ByteArray) ++ t259).size + 1 ≤ 9223372036854775807 then (some (((⟨#[100, 97, 114, 116, 115, 32]⟩ : ByteArray) ++ t259) ++ (⟨#[10]⟩ : ByteArray))) else (none)) else (none))) = some r := h
 clear h; obtain ⟨t259, A2, H⟩ := zbind H
 by_cases c3 : 6 + t259.size ≤ 9223372036854775807
 ·rw [if_pos c3] at H
  have c3b0 := eq_true c3; have c3b1 := dT c3
  try have c3b2 : (9223372036854775807 < 6 + t259.size) = False := eq_false (Nat.not_lt.2 c3)
  obtain ⟨zs4, hzs4⟩ : ∃ j_ : ByteArray, ((⟨#[100, 97, 114, 116, 115, 32]⟩ : ByteArray) ++ t259) = j_ := ⟨_, rfl⟩
  replace H : (if zs4.size + 1 ≤ 9223372036854775807 then (some (zs4 ++ (⟨#[10]⟩ : ByteArray))) else (none)) = some r := by first | (rw [hzs4] at H; exact H) | (simp only [hzs4] at H ⊢; exact H) | exact H
  (try rw [hzs4] at A2)
  by_cases c5 : zs4.size + 1 ≤ 9223372036854775807
  ·rw [if_pos c5] at H
   have c5b0 := eq_true c5; have c5b1 := dT c5
   try have c5b2 : (9223372036854775807 < zs4.size + 1) = False := eq_false (Nat.not_lt.2 c5)
   obtain ⟨zs6, hzs6⟩ : ∃ j_ : ByteArray, (zs4 ++ (⟨#[10]⟩ : ByteArray)) = j_ := ⟨_, rfl⟩
   replace H : (some zs6) = some r := by first | (rw [hzs6] at H; exact H) | (simp only [hzs6] at H ⊢; exact H) | exact H
   (try rw [hzs6] at A2)
   obtain rfl := sI H
   go_enter Tryz.func14, Tryz.ntmps14
   go_wp2_with (first | ((with_reducible refine gC (f := 22) rfl ?_); refine zJ (some 4) Tryz.func22 #[.int .i64 a0] ?_; (with_reducible refine (laws_digits.calls k a0 t259 _ A2.out).mono ?_); rintro e w7 ⟨rfl, hb⟩; refine ⟨_, rfl, ?_⟩; replace HB := zB HB hb; (try clear hb)))
   go_ret
   exact ⟨by first | rfl | (simp [*] <;> rfl), zB_ HB⟩
  rw [if_neg c5] at H
  exact absurd H (by simp)
 rw [if_neg c3] at H
 exact absurd H (by simp)

/-! ### spec_l1Same: function 97 -/
def spec_l1Same.l0 : Nat → Int → List Int → Int → Option (List Int)
  | 0, _, _, _ => none
  | k + 1, x0, x3, x4 => if x4 < x0 then (if x3.length < 17592186044416 then (spec_l1Same.l0 k x0 (x3 ++ [x4]) (wrap64 (x4 + 1))) else (none)) else (some x3)
def spec_l1Same.f (k : Nat) (a0 : Int) : Option (List Int) := spec_l1Same.l0 k a0 (([] : List Int)) 0
set_option maxHeartbeats 8000000 in
set_option maxRecDepth 100000 in
theorem spec_l1Same.calls (k : Nat) (a0 : Int) (r : List Int) (w : World) (h : spec_l1Same.f k a0 = some r) :
    Calls Tryz.prog 97 #[.int .i64 a0] w fun e w' => ∃ v0_ : Value, e = .returned (v0_) ∧ Kd.R (Kd.int .i64) 3 w' w.heap.size (fun _ => True) v0_ r ∧ Below w.heap.size w w' := by
 have HB := A0_ (Below.refl w.heap.size w)
 have H : (spec_l1Same.l0 k a0 (([] : List Int)) 0) = some r := h
 clear h
 obtain ⟨y260, hy260⟩ : ∃ y_ : List Int, y_ = (([] : List Int)) := ⟨_, rfl⟩
 replace H : (spec_l1Same.l0 k a0 y260 0) = some r := zH hy260 H
 have Ny260 := A0_ hy260; clear hy260; have H' := A0_ H; clear H
 go_enter Tryz.func97, Tryz.ntmps97
 go_wp2_with (first | ((with_reducible refine gD (N := 5) rfl ?_); refine Kd.R_lit (Kd.int .i64) _ 3 ?hg (N := 5) ?hd (xs := ([] : List Int)) (inner := []) (ok := fun _ => True) (okp := fun _ => True) ?hr ?hp (fun _ hk => hk) trivial (Below.refl _ _) (Nat.le_refl _) (by simp) ?_; (case hd => rfl); (case hg => rfl); (case hr => first | (go_simp; done) | (go_simp; rfl)); (case hp => exact (Reps.none _ _)); intro v261 w2 ho3 hb hg_ hnew_; clear hg_ hnew_; (first | rw [← Ny260.out] at ho3 | (simp only [Int.reduceToNat] at ho3; rw [← Ny260.out] at ho3)); have HO262 := A0_ (rL ho3 (bZ (zB_ HB))); replace HB := zB HB hb; clear hb ho3))
 go_loopg [3, 4] k (fun kq v3 v4 w' => ∃ (x3_1 : List Int) (x4_1 : Int), v4 = .int .i64 x4_1 ∧ Aside0 (spec_l1Same.l0 kq a0 x3_1 x4_1 = some r) ∧ Aside0 (kq ≤ k) ∧ Aside0 (Kd.R (Kd.int .i64) 3 w' w.heap.size (fun _ => True) v3 x3_1) ∧ Aside0 (Below w.heap.size w w'))
 case atStart => exact ⟨(y260), (0), zt, H', ⟨Nat.le_refl _⟩, ⟨zR_ HO262⟩, ⟨zB_ HB⟩⟩
 case round =>
  clear H'; (try clear p2); obtain ⟨x3_1, x4_1, rfl, HA, HK1, HO_3, HB⟩ := hrel
  cases gk with
  | zero => exact absurd HA.out (by simp [spec_l1Same.l0])
  | succ k1 =>
   have H := HA.out; clear HA; simp only [spec_l1Same.l0] at H
   by_cases c4 : x4_1 < a0
   ·rw [if_pos c4] at H
    have c4b0 := dT c4; clear c4
    by_cases c5 : x3_1.length < 17592186044416
    ·rw [if_pos c5] at H
     have LMc5 := A0_ c5; clear c5
     obtain ⟨y263, hy263⟩ : ∃ y_ : List Int, y_ = (x3_1 ++ [x4_1]) := ⟨_, rfl⟩
     replace H : (spec_l1Same.l0 k1 a0 y263 (wrap64 (x4_1 + 1))) = some r := zH hy263 H
     have Ny263 := A0_ hy263; clear hy263; have H' := A0_ H; clear H
     go_wp2_with (first | ((with_reducible refine gB (b := .append) (xs := #[.tmp 11, .tmp 13]) rfl ?_); at_builtin; refine Kd.R_append (Kd.int .i64) (w0 := w) w.heap.size rfl (.tmp 11) (.tmp 13) 23 3 (.int .i64 0) 8 rfl Tryz.underlying23 info3 rfl (by decide) (by omega) u3 x3_1 x4_1 [.int .i64 x4_1] (fun _ => True) (fun _ => False) rfl rfl ?aP (fun _ hk => hk.elim) ?aF ?aO ?aB ?aS ?aL ?_; (case aP => exact rfl); (case aB => exact (zB_ HB)); (case aF => exact (fun _ _ => trivial)); (case aO => exact (zR_ HO_3)); (case aS => exact (bZ (zB_ HB))); (case aL => have := LMc5.out; omega); intro v264 w6 ho hb hg hat; rw [← Ny263.out] at ho; replace HB := A0_ (hb); have HO265 := A0_ (ho); clear HO_3 ho hb hg hat))
     go_roundg k1
     case measure => have := HK1.out; omega
     case rel => exact ⟨(y263), (wrap64 (x4_1 + 1)), zt, H', ⟨by have := HK1.out; omega⟩, ⟨zR_ HO265⟩, ⟨zB_ HB⟩⟩
    rw [if_neg c5] at H
    exact absurd H (by simp)
   rw [if_neg c4] at H; have c4b0 := dF c4; clear c4; obtain rfl := sI H
   go_wp2
   go_ret
   exact ⟨_, by first | rfl | (simp [*] <;> rfl), zR_ HO_3, zB_ HB⟩

/-! ### spec_l1Orbits: function 59 -/
mutual
def spec_l1Orbits.l0 : Nat → List Int → List Int → List Int → Int → Option (List Int)
  | 0, _, _, _, _ => none
  | k + 1, x0, x1, x5, x6 => if x6 < (x0.length : Int) then (spec_l1Orbits.l1 k x0 x1 x5 x6 0) else (some x5)
def spec_l1Orbits.l1 : Nat → List Int → List Int → List Int → Int → Int → Option (List Int)
  | 0, _, _, _, _, _ => none
  | k + 1, x0, x1, x5, x6, x7 => if x7 < (x0.length : Int) then (if 0 ≤ x7 then (if x7 < (x5.length : Int) then (if 0 ≤ (rd x0 x7) then (if (rd x0 x7) < (x5.length : Int) then (if x7 < (x1.length : Int) then (if 0 ≤ (rd x1 x7) then (if (rd x1 x7) < (x5.length : Int) then (spec_l1Orbits.l1 k x0 x1 (((x5.set (x7 : Int).toNat (mn (rd x5 x7) (mn (rd x5 (rd x0 x7)) (rd x5 (rd x1 x7))))).set ((rd x0 x7) : Int).toNat (mn (rd x5 x7) (mn (rd x5 (rd x0 x7)) (rd x5 (rd x1 x7))))).set ((rd x1 x7) : Int).toNat (mn (rd x5 x7) (mn (rd x5 (rd x0 x7)) (rd x5 (rd x1 x7))))) x6 (wrap64 (x7 + 1))) else (none)) else (none)) else (none)) else (none)) else (none)) else (none)) else (none)) else (spec_l1Orbits.l0 k x0 x1 x5 (wrap64 (x6 + 1)))
end
def spec_l1Orbits.f (k : Nat) (l0 : List Int) (l1 : List Int) : Option (List Int) := (spec_l1Same.f k (l0.length : Int)).bind fun t266 => (spec_l1Orbits.l0 k l0 l1 t266 0)
set_option maxHeartbeats 8000000 in
set_option maxRecDepth 100000 in
theorem spec_l1Orbits.calls (k : Nat) (A0 : Option Addr) (c0 : Nat) (l0 : List Int) (A1 : Option Addr) (c1 : Nat) (l1 : List Int) (r : List Int) (w : World) (hr0 : Kd.C (Kd.int .i64) w A0 l0.length l0) (hc0 : l0.length ≤ c0) (hr1 : Kd.C (Kd.int .i64) w A1 l1.length l1) (hc1 : l1.length ≤ c1) (h : spec_l1Orbits.f k l0 l1 = some r) :
    Calls Tryz.prog 59 #[.slice A0 l0.length c0, .slice A1 l1.length c1] w fun e w' => ∃ v0_ : Value, e = .returned (v0_) ∧ Kd.R (Kd.int .i64) 3 w' w.heap.size (fun _ => True) v0_ r ∧ Below w.heap.size w w' := by
 have HR0 := A0_ hr0; have HC0 := A0_ hc0; clear hr0 hc0; have HR1 := A0_ hr1; have HC1 := A0_ hc1; clear hr1 hc1
 have HB := A0_ (Below.refl w.heap.size w)
 have H : ((spec_l1Same.f k (l0.length : Int)).bind fun t266 => (spec_l1Orbits.l0 k l0 l1 t266 0)) = some r := h
 clear h; obtain ⟨t266, A3, H⟩ := zbind H; have H' := A0_ H; clear H
 go_enter Tryz.func59, Tryz.ntmps59
 go_wp2_with (first | (go_at_call 97; (with_reducible refine (spec_l1Same.calls k (l0.length : Int) t266 _ A3.out).mono ?_); rintro e w4 ⟨v267, rfl, ho0, hb⟩; have HO268 := A0_ (rL ho0 (bZ (zB_ HB))); replace HB := zB HB hb; (try clear hb); (try clear ho0)))
 repeat (go_quiet (first | (go_at_call 97; (with_reducible refine (spec_l1Same.calls k (l0.length : Int) t266 _ A3.out).mono ?_); rintro e w4 ⟨v267, rfl, ho0, hb⟩; have HO268 := A0_ (rL ho0 (bZ (zB_ HB))); replace HB := zB HB hb; (try clear hb); (try clear ho0))); try go_wp2_with (first | (go_at_call 97; (with_reducible refine (spec_l1Same.calls k (l0.length : Int) t266 _ A3.out).mono ?_); rintro e w4 ⟨v267, rfl, ho0, hb⟩; have n0_ := A0_ (rL ho0 (bZ (zB_ HB))); have n1_ := zB HB hb; clear HB; have HO268 := n0_; have HB := n1_; clear n0_ n1_; (try clear hb); (try clear hb2); (try clear hk); (try clear hi); (try clear ho0))))
 go_loopg [6] k (fun kq v6 w' => ∃ (x5_1 : List Int) (x6_1 : Int), v6 = .int .i64 x6_1 ∧ Aside0 (spec_l1Orbits.l0 kq l0 l1 x5_1 x6_1 = some r) ∧ Aside0 (kq ≤ k) ∧ Aside0 (Kd.R (Kd.int .i64) 3 w' w.heap.size (fun _ => True) v267 x5_1) ∧ Aside0 (Below w.heap.size w w'))
 case atStart => exact ⟨(t266), (0), zt, H', ⟨Nat.le_refl _⟩, ⟨zR_ HO268⟩, ⟨zB_ HB⟩⟩
 case round =>
  clear H'; (try clear c1); (try clear p2); obtain ⟨x5_1, x6_1, rfl, HA, HK1, HO_5, HB⟩ := hrel
  cases gk with
  | zero => exact absurd HA.out (by simp [spec_l1Orbits.l0])
  | succ k1 =>
   have H := HA.out; clear HA; simp only [spec_l1Orbits.l0] at H
   by_cases c5 : x6_1 < (l0.length : Int)
   ·rw [if_pos c5] at H
    have c5b0 := dT c5; clear c5; have H' := A0_ H; clear H
    go_wp2
    repeat (go_quiet (fail); try go_wp2)
    go_loopg [7] k1 (fun kq v7 w' => ∃ (x5_2 : List Int) (x7_2 : Int), v7 = .int .i64 x7_2 ∧ Aside0 (spec_l1Orbits.l1 kq l0 l1 x5_2 x6_1 x7_2 = some r) ∧ Aside0 (kq ≤ k1) ∧ Aside0 (Kd.R (Kd.int .i64) 3 w' w.heap.size (fun _ => True) v267 x5_2) ∧ Aside0 (Below w.heap.size w w'))
    case atStart => exact ⟨(x5_1), (0), zt, H', ⟨Nat.le_refl _⟩, ⟨zR_ HO_5⟩, ⟨zB_ HB⟩⟩
    case round =>
     clear H'; (try clear c1); (try clear p2); (try clear c5); (try clear c5b0); (try clear p2); obtain ⟨x5_2, x7_2, rfl, HA, HK2, HO_5, HB⟩ := hrel
     cases gk with
     | zero => exact absurd HA.out (by simp [spec_l1Orbits.l1])
     | succ k2 =>
      have H := HA.out; clear HA; simp only [spec_l1Orbits.l1] at H
      by_cases c6 : x7_2 < (l0.length : Int)
      ·rw [if_pos c6] at H
       have c6b0 := dT c6; clear c6
       by_cases c7 : 0 ≤ x7_2
       ·rw [if_pos c7] at H
        have c7b0 := dT c7; clear c7
        by_cases c8 : x7_2 < (x5_2.length : Int)
        ·rw [if_pos c8] at H
         have c8b0 := dT c8; clear c8
         by_cases c9 : 0 ≤ (rd l0 x7_2)
         ·rw [if_pos c9] at H
          have c9b0 := dT c9; clear c9
          by_cases c10 : (rd l0 x7_2) < (x5_2.length : Int)
          ·rw [if_pos c10] at H
           have c10b0 := dT c10; clear c10
           by_cases c11 : x7_2 < (l1.length : Int)
           ·rw [if_pos c11] at H
            have c11b0 := dT c11; clear c11
            by_cases c12 : 0 ≤ (rd l1 x7_2)
            ·rw [if_pos c12] at H
             have c12b0 := dT c12; clear c12
             by_cases c13 : (rd l1 x7_2) < (x5_2.length : Int)
             ·rw [if_pos c13] at H
              have c13b0 := dT c13; clear c13
              obtain ⟨ji14, hji14⟩ : ∃ j_ : Int, (mn (rd x5_2 (rd l0 x7_2)) (rd x5_2 (rd l1 x7_2))) = j_ := ⟨_, rfl⟩
              replace H : (spec_l1Orbits.l1 k2 l0 l1 (((x5_2.set (x7_2 : Int).toNat (mn (rd x5_2 x7_2) (ji14))).set ((rd l0 x7_2) : Int).toNat (mn (rd x5_2 x7_2) (ji14))).set ((rd l1 x7_2) : Int).toNat (mn (rd x5_2 x7_2) (ji14))) x6_1 (wrap64 (x7_2 + 1))) = some r := by first | (rw [hji14] at H; exact H) | (simp only [hji14] at H ⊢; exact H)
              have hji14_ : (if (rd x5_2 (rd l1 x7_2)) < (rd x5_2 (rd l0 x7_2)) then (rd x5_2 (rd l1 x7_2)) else (rd x5_2 (rd l0 x7_2))) = ji14 := hji14
              obtain ⟨ji15, hji15⟩ : ∃ j_ : Int, (mn (rd x5_2 x7_2) (ji14)) = j_ := ⟨_, rfl⟩
              replace H : (spec_l1Orbits.l1 k2 l0 l1 (((x5_2.set (x7_2 : Int).toNat (ji15)).set ((rd l0 x7_2) : Int).toNat (ji15)).set ((rd l1 x7_2) : Int).toNat (ji15)) x6_1 (wrap64 (x7_2 + 1))) = some r := by first | (rw [hji15] at H; exact H) | (simp only [hji15] at H ⊢; exact H)
              have hji15_ : (if (ji14) < (rd x5_2 x7_2) then (ji14) else (rd x5_2 x7_2)) = ji15 := hji15
              obtain ⟨y274, hy274⟩ : ∃ y_ : List Int, y_ = (x5_2.set (x7_2 : Int).toNat (ji15)) := ⟨_, rfl⟩
              replace H : (spec_l1Orbits.l1 k2 l0 l1 ((y274.set ((rd l0 x7_2) : Int).toNat (ji15)).set ((rd l1 x7_2) : Int).toNat (ji15)) x6_1 (wrap64 (x7_2 + 1))) = some r := zH hy274 H
              have Ny274 := A0_ hy274; clear hy274
              obtain ⟨y276, hy276⟩ : ∃ y_ : List Int, y_ = (y274.set ((rd l0 x7_2) : Int).toNat (ji15)) := ⟨_, rfl⟩
              replace H : (spec_l1Orbits.l1 k2 l0 l1 (y276.set ((rd l1 x7_2) : Int).toNat (ji15)) x6_1 (wrap64 (x7_2 + 1))) = some r := zH hy276 H
              have Ny276 := A0_ hy276; clear hy276
              obtain ⟨y278, hy278⟩ : ∃ y_ : List Int, y_ = (y276.set ((rd l1 x7_2) : Int).toNat (ji15)) := ⟨_, rfl⟩
              replace H : (spec_l1Orbits.l1 k2 l0 l1 y278 x6_1 (wrap64 (x7_2 + 1))) = some r := zH hy278 H
              have Ny278 := A0_ hy278; clear hy278; have H' := A0_ H; clear H; obtain ⟨Ao19, co19, eo19⟩ := rS HO_5.out; subst eo19
              have p269 : 0 ≤ (x7_2 : Int) := zd
              have q269 : x7_2 < (x5_2.length : Int) := zd
              obtain ⟨ad269, e269, hx269_0⟩ := tI (rR HO_5.out).2.2 x7_2 p269 q269
              cases e269
              replace p269 := eq_true p269; replace q269 := eq_true q269
              have p270 : 0 ≤ (x7_2 : Int) := zd
              have q270 : x7_2 < (l0.length : Int) := zd
              obtain ⟨ad270, e270, hx270_0⟩ := tI HR0.out x7_2 p270 q270
              cases e270
              try replace hx270_0 := (HB.out.cell (wL w _ hx270_0)).trans hx270_0
              replace p270 := eq_true p270; replace q270 := eq_true q270
              have p271 : 0 ≤ ((rd l0 x7_2) : Int) := zd
              have q271 : (rd l0 x7_2) < (x5_2.length : Int) := zd
              obtain ⟨ad271, e271, hx271_0⟩ := tI (rR HO_5.out).2.2 (rd l0 x7_2) p271 q271
              obtain rfl : ad269 = ad271 := (by injection e271)
              replace p271 := eq_true p271; replace q271 := eq_true q271
              have p272 : 0 ≤ (x7_2 : Int) := zd
              have q272 : x7_2 < (l1.length : Int) := zd
              obtain ⟨ad272, e272, hx272_0⟩ := tI HR1.out x7_2 p272 q272
              cases e272
              try replace hx272_0 := (HB.out.cell (wL w _ hx272_0)).trans hx272_0
              replace p272 := eq_true p272; replace q272 := eq_true q272
              have p273 : 0 ≤ ((rd l1 x7_2) : Int) := zd
              have q273 : (rd l1 x7_2) < (x5_2.length : Int) := zd
              obtain ⟨ad273, e273, hx273_0⟩ := tI (rR HO_5.out).2.2 (rd l1 x7_2) p273 q273
              obtain rfl : ad269 = ad273 := (by injection e273)
              replace p273 := eq_true p273; replace q273 := eq_true q273
              have p16 : 0 ≤ (x7_2 : Int) := zd
              have q16 : (x7_2 : Int) < ((x5_2.length : Int) : Int) := zd
              obtain ⟨go16, co16, eo16, gb16, gl16, cl16, HG16⟩ := Kd.R_form HO_5.out (by omega)
              (first | cases eo16 | (injection eo16 with ea_ en_ ec_; (first | subst ea_ | (injection ea_ with ea_; subst ea_)); subst ec_; clear en_))
              have GB16 := A0_ gb16; have GG16 := A0_ HG16; clear gb16 gl16 HG16
              (first | simp only [add_plain] at hx269_0 | skip)
              (first | simp only [add_plain] at hx271_0 | skip)
              (first | simp only [add_plain] at hx273_0 | skip)
              obtain ⟨hx16_0, hf16_0⟩ := Kd.R_celln 0 HO_5.out (x7_2 : Int) p16 q16
              replace p16 := eq_true p16; replace q16 := eq_true q16
              have HP20 := Kd.R_putg HO_5.out (x7_2 : Int) ji15
              go_wp2_with (first | ((with_reducible refine gS (t := 3) (p := 47) rfl ?_); (try (rw [drewN_self wr]; generalize hq_ : World.drewN wr _ = wr; have n0_ := A0_ (Kd.R_at hq_ HO_5.out); have n1_ := A0_ (below_at hq_ HB.out); clear hq_ HO_5 HB; have HO_5 := n0_; have HB := n1_; clear n0_ n1_; (try (obtain ⟨hx16_0, hf16_0⟩ := Kd.R_celln 0 HO_5.out (x7_2 : Int) (of_eq_true p16) (of_eq_true q16))); (try (have HP20 := Kd.R_putg HO_5.out (x7_2 : Int) ji15)))); refine store_event (t := 3) (p := 47) (v := ?vo_w21) (w1 := (wr.setCell ⟨go16, (x7_2 : Int).toNat, none⟩ (.int .i64 ji15))) ?hg ?ho ?hn ?hr ?_; (case ho => rfl); (case hg => rfl); (case hn => rfl); (case hr => first | (go_simp; done) | (go_simp; rfl) | (go_simp; congr 2; rw [← hji14]; unfold mn; omega) | (go_simp; congr 2; rw [← hji15]; unfold mn; omega)); intro w21 hw; have hg : wr.grownBy w21 (some go16) := (by rw [hw]; exact HP20.2); have hp_ : Kd.R (Kd.int .i64) 3 w21 w.heap.size (fun _ => True) (.slice (some ⟨go16, 0, none⟩) x5_2.length co19) y274 := (by rw [hw, Ny274.out]; exact HP20.1); clear HP20; replace HO_5 := A0_ (hp_); replace HB := A0_ ((by rw [hw]; exact bS (HB.out) GB16.out : Below w.heap.size w w21)); clear hg hw hp_; have p275 : 0 ≤ (x7_2 : Int) := zd; have q275 : x7_2 < (l0.length : Int) := zd; obtain ⟨ad275, e275, hx275_0⟩ := tI HR0.out x7_2 p275 q275; obtain rfl : ad270 = ad275 := (by injection e275); try replace hx275_0 := (HB.out.cell (wL w _ hx275_0)).trans hx275_0; replace p275 := eq_true p275; replace q275 := eq_true q275; have p17 : 0 ≤ ((rd l0 x7_2) : Int) := zd; have q17 : ((rd l0 x7_2) : Int) < ((x5_2.length : Int) : Int) := zd; obtain ⟨hx17_0, hf17_0⟩ := Kd.R_celln 0 HO_5.out ((rd l0 x7_2) : Int) p17 q17; replace p17 := eq_true p17; replace q17 := eq_true q17; obtain ⟨hy22_, hz22_⟩ := Kd.R_celln 0 HO_5.out ((rd l0 x7_2) : Int) (zd) (zd); have HP22 := Kd.R_putg HO_5.out ((rd l0 x7_2) : Int) ji15) | ((with_reducible refine gS (t := 3) (p := 54) rfl ?_); (try (rw [drewN_self w21]; generalize hq_ : World.drewN w21 _ = w21; have n0_ := A0_ (Kd.R_at hq_ HO_5.out); have n1_ := A0_ (below_at hq_ HB.out); clear hq_ HO_5 HB; have HO_5 := n0_; have HB := n1_; clear n0_ n1_; (try (obtain ⟨hx16_0, hf16_0⟩ := Kd.R_celln 0 HO_5.out (x7_2 : Int) (of_eq_true p16) (of_eq_true q16))); (try (obtain ⟨hy22_, hz22_⟩ := Kd.R_celln 0 HO_5.out ((rd l0 x7_2) : Int) (zd) (zd))); (try (have HP22 := Kd.R_putg HO_5.out ((rd l0 x7_2) : Int) ji15)))); refine store_event (t := 3) (p := 54) (v := ?vo_w23) (w1 := (w21.setCell ⟨go16, ((rd l0 x7_2) : Int).toNat, none⟩ (.int .i64 ji15))) ?hg ?ho ?hn ?hr ?_; (case ho => rfl); (case hg => rfl); (case hn => rfl); (case hr => first | (go_simp; done) | (go_simp; rfl) | (go_simp; congr 2; rw [← hji14]; unfold mn; omega) | (go_simp; congr 2; rw [← hji15]; unfold mn; omega)); intro w23 hw; have hg : w21.grownBy w23 (some go16) := (by rw [hw]; exact HP22.2); have hp_ : Kd.R (Kd.int .i64) 3 w23 w.heap.size (fun _ => True) (.slice (some ⟨go16, 0, none⟩) x5_2.length co19) y276 := (by rw [hw, Ny276.out]; exact HP22.1); clear HP22; replace HO_5 := A0_ (hp_); replace HB := A0_ ((by rw [hw]; exact bS (HB.out) GB16.out : Below w.heap.size w w23)); clear hg hw hp_; have p277 : 0 ≤ (x7_2 : Int) := zd; have q277 : x7_2 < (l1.length : Int) := zd; obtain ⟨ad277, e277, hx277_0⟩ := tI HR1.out x7_2 p277 q277; obtain rfl : ad272 = ad277 := (by injection e277); try replace hx277_0 := (HB.out.cell (wL w _ hx277_0)).trans hx277_0; replace p277 := eq_true p277; replace q277 := eq_true q277; have p18 : 0 ≤ ((rd l1 x7_2) : Int) := zd; have q18 : ((rd l1 x7_2) : Int) < ((x5_2.length : Int) : Int) := zd; obtain ⟨hx18_0, hf18_0⟩ := Kd.R_celln 0 HO_5.out ((rd l1 x7_2) : Int) p18 q18; replace p18 := eq_true p18; replace q18 := eq_true q18; obtain ⟨hy24_, hz24_⟩ := Kd.R_celln 0 HO_5.out ((rd l1 x7_2) : Int) (zd) (zd); have HP24 := Kd.R_putg HO_5.out ((rd l1 x7_2) : Int) ji15) | ((with_reducible refine gS (t := 3) (p := 61) rfl ?_); (try (rw [drewN_self w23]; generalize hq_ : World.drewN w23 _ = w23; have n0_ := A0_ (Kd.R_at hq_ HO_5.out); have n1_ := A0_ (below_at hq_ HB.out); clear hq_ HO_5 HB; have HO_5 := n0_; have HB := n1_; clear n0_ n1_; (try (obtain ⟨hx16_0, hf16_0⟩ := Kd.R_celln 0 HO_5.out (x7_2 : Int) (of_eq_true p16) (of_eq_true q16))); (try (obtain ⟨hy24_, hz24_⟩ := Kd.R_celln 0 HO_5.out ((rd l1 x7_2) : Int) (zd) (zd))); (try (have HP24 := Kd.R_putg HO_5.out ((rd l1 x7_2) : Int) ji15)))); refine store_event (t := 3) (p := 61) (v := ?vo_w25) (w1 := (w23.setCell ⟨go16, ((rd l1 x7_2) : Int).toNat, none⟩ (.int .i64 ji15))) ?hg ?ho ?hn ?hr ?_; (case ho => rfl); (case hg => rfl); (case hn => rfl); (case hr => first | (go_simp; done) | (go_simp; rfl) | (go_simp; congr 2; rw [← hji14]; unfold mn; omega) | (go_simp; congr 2; rw [← hji15]; unfold mn; omega)); intro w25 hw; have hg : w23.grownBy w25 (some go16) := (by rw [hw]; exact HP24.2); have hp_ : Kd.R (Kd.int .i64) 3 w25 w.heap.size (fun _ => True) (.slice (some ⟨go16, 0, none⟩) x5_2.length co19) y278 := (by rw [hw, Ny278.out]; exact HP24.1); clear HP24; replace HO_5 := A0_ (hp_); replace HB := A0_ ((by rw [hw]; exact bS (HB.out) GB16.out : Below w.heap.size w w25)); clear hg hw hp_))
              repeat (go_quiet (first | ((with_reducible refine gS (t := 3) (p := 47) rfl ?_); (try (rw [drewN_self wr]; generalize hq_ : World.drewN wr _ = wr; have n0_ := A0_ (Kd.R_at hq_ HO_5.out); have n1_ := A0_ (below_at hq_ HB.out); clear hq_ HO_5 HB; have HO_5 := n0_; have HB := n1_; clear n0_ n1_; (try (obtain ⟨hx16_0, hf16_0⟩ := Kd.R_celln 0 HO_5.out (x7_2 : Int) (of_eq_true p16) (of_eq_true q16))); (try (have HP20 := Kd.R_putg HO_5.out (x7_2 : Int) ji15)))); refine store_event (t := 3) (p := 47) (v := ?vo_w21) (w1 := (wr.setCell ⟨go16, (x7_2 : Int).toNat, none⟩ (.int .i64 ji15))) ?hg ?ho ?hn ?hr ?_; (case ho => rfl); (case hg => rfl); (case hn => rfl); (case hr => first | (go_simp; done) | (go_simp; rfl) | (go_simp; congr 2; rw [← hji14]; unfold mn; omega) | (go_simp; congr 2; rw [← hji15]; unfold mn; omega)); intro w21 hw; have hg : wr.grownBy w21 (some go16) := (by rw [hw]; exact HP20.2); have hp_ : Kd.R (Kd.int .i64) 3 w21 w.heap.size (fun _ => True) (.slice (some ⟨go16, 0, none⟩) x5_2.length co19) y274 := (by rw [hw, Ny274.out]; exact HP20.1); clear HP20; replace HO_5 := A0_ (hp_); replace HB := A0_ ((by rw [hw]; exact bS (HB.out) GB16.out : Below w.heap.size w w21)); clear hg hw hp_; have p275 : 0 ≤ (x7_2 : Int) := zd; have q275 : x7_2 < (l0.length : Int) := zd; obtain ⟨ad275, e275, hx275_0⟩ := tI HR0.out x7_2 p275 q275; obtain rfl : ad270 = ad275 := (by injection e275); try replace hx275_0 := (HB.out.cell (wL w _ hx275_0)).trans hx275_0; replace p275 := eq_true p275; replace q275 := eq_true q275; have p17 : 0 ≤ ((rd l0 x7_2) : Int) := zd; have q17 : ((rd l0 x7_2) : Int) < ((x5_2.length : Int) : Int) := zd; obtain ⟨hx17_0, hf17_0⟩ := Kd.R_celln 0 HO_5.out ((rd l0 x7_2) : Int) p17 q17; replace p17 := eq_true p17; replace q17 := eq_true q17; obtain ⟨hy22_, hz22_⟩ := Kd.R_celln 0 HO_5.out ((rd l0 x7_2) : Int) (zd) (zd); have HP22 := Kd.R_putg HO_5.out ((rd l0 x7_2) : Int) ji15) | ((with_reducible refine gS (t := 3) (p := 54) rfl ?_); (try (rw [drewN_self w21]; generalize hq_ : World.drewN w21 _ = w21; have n0_ := A0_ (Kd.R_at hq_ HO_5.out); have n1_ := A0_ (below_at hq_ HB.out); clear hq_ HO_5 HB; have HO_5 := n0_; have HB := n1_; clear n0_ n1_; (try (obtain ⟨hx16_0, hf16_0⟩ := Kd.R_celln 0 HO_5.out (x7_2 : Int) (of_eq_true p16) (of_eq_true q16))); (try (obtain ⟨hy22_, hz22_⟩ := Kd.R_celln 0 HO_5.out ((rd l0 x7_2) : Int) (zd) (zd))); (try (have HP22 := Kd.R_putg HO_5.out ((rd l0 x7_2) : Int) ji15)))); refine store_event (t := 3) (p := 54) (v := ?vo_w23) (w1 := (w21.setCell ⟨go16, ((rd l0 x7_2) : Int).toNat, none⟩ (.int .i64 ji15))) ?hg ?ho ?hn ?hr ?_; (case ho => rfl); (case hg => rfl); (case hn => rfl); (case hr => first | (go_simp; done) | (go_simp; rfl) | (go_simp; congr 2; rw [← hji14]; unfold mn; omega) | (go_simp; congr 2; rw [← hji15]; unfold mn; omega)); intro w23 hw; have hg : w21.grownBy w23 (some go16) := (by rw [hw]; exact HP22.2); have hp_ : Kd.R (Kd.int .i64) 3 w23 w.heap.size (fun _ => True) (.slice (some ⟨go16, 0, none⟩) x5_2.length co19) y276 := (by rw [hw, Ny276.out]; exact HP22.1); clear HP22; replace HO_5 := A0_ (hp_); replace HB := A0_ ((by rw [hw]; exact bS (HB.out) GB16.out : Below w.heap.size w w23)); clear hg hw hp_; have p277 : 0 ≤ (x7_2 : Int) := zd; have q277 : x7_2 < (l1.length : Int) := zd; obtain ⟨ad277, e277, hx277_0⟩ := tI HR1.out x7_2 p277 q277; obtain rfl : ad272 = ad277 := (by injection e277); try replace hx277_0 := (HB.out.cell (wL w _ hx277_0)).trans hx277_0; replace p277 := eq_true p277; replace q277 := eq_true q277; have p18 : 0 ≤ ((rd l1 x7_2) : Int) := zd; have q18 : ((rd l1 x7_2) : Int) < ((x5_2.length : Int) : Int) := zd; obtain ⟨hx18_0, hf18_0⟩ := Kd.R_celln 0 HO_5.out ((rd l1 x7_2) : Int) p18 q18; replace p18 := eq_true p18; replace q18 := eq_true q18; obtain ⟨hy24_, hz24_⟩ := Kd.R_celln 0 HO_5.out ((rd l1 x7_2) : Int) (zd) (zd); have HP24 := Kd.R_putg HO_5.out ((rd l1 x7_2) : Int) ji15) | ((with_reducible refine gS (t := 3) (p := 61) rfl ?_); (try (rw [drewN_self w23]; generalize hq_ : World.drewN w23 _ = w23; have n0_ := A0_ (Kd.R_at hq_ HO_5.out); have n1_ := A0_ (below_at hq_ HB.out); clear hq_ HO_5 HB; have HO_5 := n0_; have HB := n1_; clear n0_ n1_; (try (obtain ⟨hx16_0, hf16_0⟩ := Kd.R_celln 0 HO_5.out (x7_2 : Int) (of_eq_true p16) (of_eq_true q16))); (try (obtain ⟨hy24_, hz24_⟩ := Kd.R_celln 0 HO_5.out ((rd l1 x7_2) : Int) (zd) (zd))); (try (have HP24 := Kd.R_putg HO_5.out ((rd l1 x7_2) : Int) ji15)))); refine store_event (t := 3) (p := 61) (v := ?vo_w25) (w1 := (w23.setCell ⟨go16, ((rd l1 x7_2) : Int).toNat, none⟩ (.int .i64 ji15))) ?hg ?ho ?hn ?hr ?_; (case ho => rfl); (case hg => rfl); (case hn => rfl); (case hr => first | (go_simp; done) | (go_simp; rfl) | (go_simp; congr 2; rw [← hji14]; unfold mn; omega) | (go_simp; congr 2; rw [← hji15]; unfold mn; omega)); intro w25 hw; have hg : w23.grownBy w25 (some go16) := (by rw [hw]; exact HP24.2); have hp_ : Kd.R (Kd.int .i64) 3 w25 w.heap.size (fun _ => True) (.slice (some ⟨go16, 0, none⟩) x5_2.length co19) y278 := (by rw [hw, Ny278.out]; exact HP24.1); clear HP24; replace HO_5 := A0_ (hp_); replace HB := A0_ ((by rw [hw]; exact bS (HB.out) GB16.out : Below w.heap.size w w25)); clear hg hw hp_)); try go_wp2_with (first | ((with_reducible refine gS (t := 3) (p := 47) rfl ?_); (try (rw [drewN_self wr]; generalize hq_ : World.drewN wr _ = wr; have n0_ := A0_ (Kd.R_at hq_ HO_5.out); have n1_ := A0_ (below_at hq_ HB.out); clear hq_ HO_5 HB; have HO_5 := n0_; have HB := n1_; clear n0_ n1_; (try (obtain ⟨hx16_0, hf16_0⟩ := Kd.R_celln 0 HO_5.out (x7_2 : Int) (of_eq_true p16) (of_eq_true q16))); (try (have HP20 := Kd.R_putg HO_5.out (x7_2 : Int) ji15)))); refine store_event (t := 3) (p := 47) (v := ?vo_w21) (w1 := (wr.setCell ⟨go16, (x7_2 : Int).toNat, none⟩ (.int .i64 ji15))) ?hg ?ho ?hn ?hr ?_; (case ho => rfl); (case hg => rfl); (case hn => rfl); (case hr => first | (go_simp; done) | (go_simp; rfl) | (go_simp; congr 2; rw [← hji14]; unfold mn; omega) | (go_simp; congr 2; rw [← hji15]; unfold mn; omega)); intro w21 hw; have hg : wr.grownBy w21 (some go16) := (by rw [hw]; exact HP20.2); have hp_ : Kd.R (Kd.int .i64) 3 w21 w.heap.size (fun _ => True) (.slice (some ⟨go16, 0, none⟩) x5_2.length co19) y274 := (by rw [hw, Ny274.out]; exact HP20.1); clear HP20; have n0_ := A0_ (hp_); have n1_ := A0_ ((by rw [hw]; exact bS (HB.out) GB16.out : Below w.heap.size w w21)); clear HO_5 HB; have HO_5 := n0_; have HB := n1_; clear n0_ n1_ hg hw hp_; have p275 : 0 ≤ (x7_2 : Int) := zd; have q275 : x7_2 < (l0.length : Int) := zd; obtain ⟨ad275, e275, hx275_0⟩ := tI HR0.out x7_2 p275 q275; obtain rfl : ad270 = ad275 := (by injection e275); try replace hx275_0 := (HB.out.cell (wL w _ hx275_0)).trans hx275_0; replace p275 := eq_true p275; replace q275 := eq_true q275; have p17 : 0 ≤ ((rd l0 x7_2) : Int) := zd; have q17 : ((rd l0 x7_2) : Int) < ((x5_2.length : Int) : Int) := zd; obtain ⟨hx17_0, hf17_0⟩ := Kd.R_celln 0 HO_5.out ((rd l0 x7_2) : Int) p17 q17; replace p17 := eq_true p17; replace q17 := eq_true q17; obtain ⟨hy22_, hz22_⟩ := Kd.R_celln 0 HO_5.out ((rd l0 x7_2) : Int) (zd) (zd); have HP22 := Kd.R_putg HO_5.out ((rd l0 x7_2) : Int) ji15) | ((with_reducible refine gS (t := 3) (p := 54) rfl ?_); (try (rw [drewN_self w21]; generalize hq_ : World.drewN w21 _ = w21; have n0_ := A0_ (Kd.R_at hq_ HO_5.out); have n1_ := A0_ (below_at hq_ HB.out); clear hq_ HO_5 HB; have HO_5 := n0_; have HB := n1_; clear n0_ n1_; (try (obtain ⟨hx16_0, hf16_0⟩ := Kd.R_celln 0 HO_5.out (x7_2 : Int) (of_eq_true p16) (of_eq_true q16))); (try (obtain ⟨hy22_, hz22_⟩ := Kd.R_celln 0 HO_5.out ((rd l0 x7_2) : Int) (zd) (zd))); (try (have HP22 := Kd.R_putg HO_5.out ((rd l0 x7_2) : Int) ji15)))); refine store_event (t := 3) (p := 54) (v := ?vo_w23) (w1 := (w21.setCell ⟨go16, ((rd l0 x7_2) : Int).toNat, none⟩ (.int .i64 ji15))) ?hg ?ho ?hn ?hr ?_; (case ho => rfl); (case hg => rfl); (case hn => rfl); (case hr => first | (go_simp; done) | (go_simp; rfl) | (go_simp; congr 2; rw [← hji14]; unfold mn; omega) | (go_simp; congr 2; rw [← hji15]; unfold mn; omega)); intro w23 hw; have hg : w21.grownBy w23 (some go16) := (by rw [hw]; exact HP22.2); have hp_ : Kd.R (Kd.int .i64) 3 w23 w.heap.size (fun _ => True) (.slice (some ⟨go16, 0, none⟩) x5_2.length co19) y276 := (by rw [hw, Ny276.out]; exact HP22.1); clear HP22; have n0_ := A0_ (hp_); have n1_ := A0_ ((by rw [hw]; exact bS (HB.out) GB16.out : Below w.heap.size w w23)); clear HO_5 HB; have HO_5 := n0_; have HB := n1_; clear n0_ n1_ hg hw hp_; have p277 : 0 ≤ (x7_2 : Int) := zd; have q277 : x7_2 < (l1.length : Int) := zd; obtain ⟨ad277, e277, hx277_0⟩ := tI HR1.out x7_2 p277 q277; obtain rfl : ad272 = ad277 := (by injection e277); try replace hx277_0 := (HB.out.cell (wL w _ hx277_0)).trans hx277_0; replace p277 := eq_true p277; replace q277 := eq_true q277; have p18 : 0 ≤ ((rd l1 x7_2) : Int) := zd; have q18 : ((rd l1 x7_2) : Int) < ((x5_2.length : Int) : Int) := zd; obtain ⟨hx18_0, hf18_0⟩ := Kd.R_celln 0 HO_5.out ((rd l1 x7_2) : Int) p18 q18; replace p18 := eq_true p18; replace q18 := eq_true q18; obtain ⟨hy24_, hz24_⟩ := Kd.R_celln 0 HO_5.out ((rd l1 x7_2) : Int) (zd) (zd); have HP24 := Kd.R_putg HO_5.out ((rd l1 x7_2) : Int) ji15) | ((with_reducible refine gS (t := 3) (p := 61) rfl ?_); (try (rw [drewN_self w23]; generalize hq_ : World.drewN w23 _ = w23; have n0_ := A0_ (Kd.R_at hq_ HO_5.out); have n1_ := A0_ (below_at hq_ HB.out); clear hq_ HO_5 HB; have HO_5 := n0_; have HB := n1_; clear n0_ n1_; (try (obtain ⟨hx16_0, hf16_0⟩ := Kd.R_celln 0 HO_5.out (x7_2 : Int) (of_eq_true p16) (of_eq_true q16))); (try (obtain ⟨hy24_, hz24_⟩ := Kd.R_celln 0 HO_5.out ((rd l1 x7_2) : Int) (zd) (zd))); (try (have HP24 := Kd.R_putg HO_5.out ((rd l1 x7_2) : Int) ji15)))); refine store_event (t := 3) (p := 61) (v := ?vo_w25) (w1 := (w23.setCell ⟨go16, ((rd l1 x7_2) : Int).toNat, none⟩ (.int .i64 ji15))) ?hg ?ho ?hn ?hr ?_; (case ho => rfl); (case hg => rfl); (case hn => rfl); (case hr => first | (go_simp; done) | (go_simp; rfl) | (go_simp; congr 2; rw [← hji14]; unfold mn; omega) | (go_simp; congr 2; rw [← hji15]; unfold mn; omega)); intro w25 hw; have hg : w23.grownBy w25 (some go16) := (by rw [hw]; exact HP24.2); have hp_ : Kd.R (Kd.int .i64) 3 w25 w.heap.size (fun _ => True) (.slice (some ⟨go16, 0, none⟩) x5_2.length co19) y278 := (by rw [hw, Ny278.out]; exact HP24.1); clear HP24; have n0_ := A0_ (hp_); have n1_ := A0_ ((by rw [hw]; exact bS (HB.out) GB16.out : Below w.heap.size w w25)); clear HO_5 HB; have HO_5 := n0_; have HB := n1_; clear n0_ n1_ hg hw hp_)))
              go_roundg k2
              case measure => have := HK1.out; have := HK2.out; omega
              case rel => exact ⟨(y278), (wrap64 (x7_2 + 1)), zt, H', ⟨by have := HK1.out; have := HK2.out; omega⟩, ⟨zR_ HO_5⟩, ⟨zB_ HB⟩⟩
             rw [if_neg c13] at H
             exact absurd H (by simp)
            rw [if_neg c12] at H
            exact absurd H (by simp)
           rw [if_neg c11] at H
           exact absurd H (by simp)
          rw [if_neg c10] at H
          exact absurd H (by simp)
         rw [if_neg c9] at H
         exact absurd H (by simp)
        rw [if_neg c8] at H
        exact absurd H (by simp)
       rw [if_neg c7] at H
       exact absurd H (by simp)
      rw [if_neg c6] at H; have c6b0 := dF c6; clear c6; have H' := A0_ H; clear H
      go_wp2
      repeat (go_quiet (fail); try go_wp2)
      go_roundg k2
      case measure => have := HK1.out; have := HK2.out; omega
      case rel => exact ⟨(x5_2), (wrap64 (x6_1 + 1)), zt, H', ⟨by have := HK1.out; have := HK2.out; omega⟩, ⟨zR_ HO_5⟩, ⟨zB_ HB⟩⟩
   rw [if_neg c5] at H; have c5b0 := dF c5; clear c5; obtain rfl := sI H
   go_wp2
   repeat (go_quiet (fail); try go_wp2)
   go_ret
   exact ⟨_, by first | rfl | (simp [*] <;> rfl), zR_ HO_5, zB_ HB⟩

/-! ### spec_l6In: function 94 -/
def spec_l6In.f (a0 : Int) (a1 : Int) (a2 : Int) : Option (Bool) := if a0 ≥ a1 then (some (decide (a0 ≤ a2))) else (some false)
set_option maxHeartbeats 8000000 in
set_option maxRecDepth 100000 in
theorem spec_l6In.calls (a0 : Int) (a1 : Int) (a2 : Int) (r : Bool) (w : World) (h : spec_l6In.f a0 a1 a2 = some r) :
    Calls Tryz.prog 94 #[.int .i64 a0, .int .i64 a1, .int .i64 a2] w fun e w' => e = .returned (.bool r) ∧ Drawn0 w w' := by
 have H : (if a0 ≥ a1 then (some (decide (a0 ≤ a2))) else (some false)) = some r := h
 clear h
 by_cases c4 : a0 ≥ a1
 ·rw [if_pos c4] at H
  have c4b0 : decide (a1 ≤ a0) = true := dT c4
  clear c4; obtain rfl := sI H
  go_enter Tryz.func94, Tryz.ntmps94
  go_wp2
  go_ret
  exact ⟨by first | rfl | (simp; done) | (simp [*]; done), by repeat (first | exact Drawn0.refl _ | apply Drawn0.step)⟩
 rw [if_neg c4] at H
 have c4b0 : decide (a1 ≤ a0) = false := dF c4
 clear c4; obtain rfl := sI H
 go_enter Tryz.func94, Tryz.ntmps94
 go_wp2
 go_ret
 exact ⟨by first | rfl | (simp; done) | (simp [*]; done), by repeat (first | exact Drawn0.refl _ | apply Drawn0.step)⟩

end Go.Proofs.YtikkokflcgcnbaaGreatDoor.PFnExecuteForm
