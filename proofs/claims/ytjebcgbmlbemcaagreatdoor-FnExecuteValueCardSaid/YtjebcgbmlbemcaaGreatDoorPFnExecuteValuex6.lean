-- Made by a program of this session (wip/tools) out of the loaded program; not trusted: Lean checks it.
import Derived.Test.YtjebcgbmlbemcaaGreatDoorPFnExecuteValuex0
import Derived.Test.YtjebcgbmlbemcaaGreatDoorPFnExecuteValuex4
-- packed
namespace Go.Proofs.YtjebcgbmlbemcaaGreatDoor.PFnExecuteValue
open Go.RowKit Go.Proofs.YtjebcgbmlbemcaaGreatDoorW.PrintWords Go.Proofs.YtjebcgbmlbemcaaGreatDoorW.PrintLast Go.Proofs.YtjebcgbmlbemcaaGreatDoorW.PrintMore
attribute [local go_sem] max2_int min2_int max_two min_two max_three min_three max_four min_four   -- for this text's walks alone
set_option linter.unusedVariables false
set_option linter.unusedSimpArgs false

/-! ### laws_digits: function 17 -/
def laws_digits.f : Nat → Int → Option (ByteArray)
  | 0, _ => none
  | k + 1, a0 => if a0 < 10 then (some (strOfNums (([(wrap64 (48 + a0)) % 256] : List Int)))) else ((laws_digits.f k (wrap64 (Int.tdiv a0 10))).bind fun t239 => ((some (([(wrap64 (48 + (Int.tmod a0 10))) % 256] : List Int) : List Int)).bind fun y240 => (if t239.size + (strOfNums y240).size ≤ 9223372036854775807 then (some (t239 ++ (strOfNums y240))) else (none))))
def laws_digits.T3 : Bool × List (List Nat × List Nat) := (true, [([], []), ([0], [0]), ([1], [1]), ([], []), ([3], [3]), ([4], [4]), ([5], [5]), ([6], [6]), ([7], [7]), ([2, 8], [2, 8]), ([9, 2, 0, 1, 2, 3, 4, 5, 6, 7, 8, 9], [9])])
def laws_digits.B3 : List Nat := [0, 1, 3, 0, 8, 24, 56, 120, 248, 511, 1023]
theorem laws_digits.tab3 : rtab .any (opsOf Tryz.f17 3) = laws_digits.T3 := by kernel_rfl
theorem laws_digits.bits3 : waitsOk laws_digits.T3.2 laws_digits.B3 = true := by kernel_rfl
set_option maxHeartbeats 8000000 in
set_option maxRecDepth 100000 in
theorem laws_digits.calls (k : Nat) : ∀ (a0 : Int) (r : ByteArray) (w : World) (h : laws_digits.f k a0 = some r),
    Calls Tryz.prog 17 #[.int .i64 a0] w fun e w' => e = .returned (.string r) ∧ Below w.heap.size w w' := by
 induction k using Nat.strongRecOn with
 | _ k ih =>
 intro a0 r w h
 cases k with
 | zero => exact absurd h (by simp [laws_digits.f])
 | succ k =>
 simp only [laws_digits.f] at h
 have HB := A0_ (Below.refl w.heap.size w)
 have H : (if a0 < 10 then (some (strOfNums (([(wrap64 (48 + a0)) % 256] : List Int)))) else ((laws_digits.f k (wrap64 (Int.tdiv a0 10))).bind fun t239 => ((some (([(wrap64 (48 + (Int.tmod a0 10))) % 256] : List Int) : List Int)).bind fun y240 => (if t239.size + (strOfNums y240).size ≤ 9223372036854775807 then (some (t239 ++ (strOfNums y240))) else (none))))) = some r := h
 clear h
 by_cases c2 : a0 < 10
 ·rw [if_pos c2] at H
  have c2b0 := dT c2; clear c2
  obtain ⟨y236, hy236⟩ : ∃ y_ : List Int, y_ = (([(wrap64 (48 + a0)) % 256] : List Int)) := ⟨_, rfl⟩
  replace H : (some (strOfNums y236)) = some r := zH hy236 H
  have Ny236 := A0_ hy236; clear hy236; obtain rfl := sI H
  go_enter Tryz.func17, Tryz.ntmps17
  go_wp2_with (first | ((with_reducible refine gD (N := 8) rfl ?_); refine Kd.R_lit (Kd.int .u8) _ 5 ?hg (N := 8) ?hd (xs := ([(wrap64 (48 + a0)) % 256] : List Int)) (inner := [.int .u8 ((wrap64 (48 + a0)) % 256)]) (ok := fun _ => True) (okp := fun _ => True) ?hr ?hp (fun _ hk => hk) trivial (Below.refl _ _) (Nat.le_refl _) (by simp) ?_; (case hd => rfl); (case hg => rfl); (case hr => first | (go_simp; done) | (go_simp; rfl)); (case hp => exact (Reps.one (show Kd.M (Kd.int .u8) _ _ _ ((wrap64 (48 + a0)) % 256) [.int .u8 ((wrap64 (48 + a0)) % 256)] from rfl) (Reps.none _ _))); intro v237 w3 ho4 hb hg_ hnew_; clear hg_ hnew_; (first | rw [← Ny236.out] at ho4 | (simp only [Int.reduceToNat] at ho4; rw [← Ny236.out] at ho4)); have HO238 := A0_ (rL ho4 (bZ (zB_ HB))); replace HB := zB HB hb; clear hb ho4; have hcv5 := own_string (P := Tryz.prog) Tryz.underlying22 Tryz.underlying5 Tryz.underlying9 (Kd.own_of_R HO238.out)))
  go_ret
  exact ⟨by first | rfl | (simp [*] <;> rfl), zB_ HB⟩
 rw [if_neg c2] at H; have c2b0 := dF c2; clear c2; obtain ⟨t239, A6, H⟩ := zbind H
 obtain ⟨y240, hy240⟩ : ∃ y_ : List Int, y_ = (([(wrap64 (48 + (Int.tmod a0 10))) % 256] : List Int)) := ⟨_, rfl⟩
 replace H : (if t239.size + (strOfNums y240).size ≤ 9223372036854775807 then (some (t239 ++ (strOfNums y240))) else (none)) = some r := zH hy240 H
 have Ny240 := A0_ hy240; clear hy240
 by_cases c7 : t239.size + (strOfNums y240).size ≤ 9223372036854775807
 ·rw [if_pos c7] at H
  have c7b0 := eq_true c7; have c7b1 := dT c7
  try have c7b2 : (9223372036854775807 < t239.size + (strOfNums y240).size) = False := eq_false (Nat.not_lt.2 c7)
  obtain ⟨zs8, hzs8⟩ : ∃ j_ : ByteArray, (t239 ++ (strOfNums y240)) = j_ := ⟨_, rfl⟩
  replace H : (some zs8) = some r := by first | (rw [hzs8] at H; exact H) | (simp only [hzs8] at H ⊢; exact H) | exact H
  (try rw [hzs8] at A6)
  obtain rfl := sI H
  go_enter Tryz.func17, Tryz.ntmps17
  try go_wp2
  replace HB := A0_ (bD HB.out)
  refine start_ (n := 11) (S := fun w' => True) (ds := []) #[false, false, false, false, false, false, false, false, false, false, false] (by kernel_rfl) rfl rfl trivial (fun hHeld => ?_); refine with_tabW laws_digits.tab3 laws_digits.bits3 (fun HT_ HW_ => ?_)
  generalize w.drew = w9 at HB hHeld ⊢
  refine zP 0 (some 10) #[true,false,false,false,false,false,false,false,false,false,false] ?_
  refine zP 1 (some 11) #[true,true,false,false,false,false,false,false,false,false,false] ?_
  refine zP 3 (some 13) #[true,true,false,true,false,false,false,false,false,false,false] ?_
  refine zP 4 (some 14) #[true,true,false,true,true,false,false,false,false,false,false] ?_
  refine zP 5 (some 15) #[true,true,false,true,true,true,false,false,false,false,false] ?_
  refine zP 6 (some 16) #[true,true,false,true,true,true,true,false,false,false,false] ?_
  refine join_ (σ := Value) 2 #[true, true, true, true, true, true, true, true, true, false, false] (fun s_ => [(12, .string t239), (17, s_), (18, .string (strOfNums y240))]) (fun s_ w' => (Kd.R (Kd.int .u8) 5 w' w.heap.size (fun _ => True) s_ y240) ∧ (Below w.heap.size w w')) ?_ ?_
  rotate_left
  ·intro hCont
   refine two_ (i := 2) (j := 7) (Ni := some 12) (Nj := some 17) #[true, true, true, true, true, true, true, false, false, false, false] #[true, true, false, true, true, true, true, true, false, false, false] rfl rfl rfl rfl (two_of HT_.out (by kernel_rfl)) (by decide) (by decide) (fun K hK => ?_) (fun K hK => ?_)
   ·skip
    refine goes_ Tryz.func17 (by kernel_rfl) rfl #[.int .i64 (wrap64 (Int.tdiv a0 10))] (by rfl) rfl rfl (by (try simp only [List.map_toArray, List.map_cons, List.map_nil]); first | done | rfl | (simp only [List.length_drop, List.length_take]; rfl)) ?_
    with_reducible refine (ih k (by omega) (wrap64 (Int.tdiv a0 10)) t239 _ A6.out).mono ?_
    rintro e w10 ⟨rfl, hb⟩
    refine ⟨_, rfl, ?_⟩
    replace HB := zB HB hb; (try clear hb); (try clear hb2); (try clear hk); (try clear hi)
    refine hK.out _ _ trivial (fun hHeld => ?_)
    clear hK K
    refine norm_ (a' := ?_) ?_ ?_
    rotate_left
    ·show Act.put _ (some 12) _ = _
     simp only [Act.put, List.setIfInBounds_toArray, List.set_cons_zero, List.set_cons_succ, i64_w, i32_w]
     rfl
    refine one_ (i := 7) (N := some 17) #[true, true, true, true, true, true, true, true, false, false, false] rfl rfl (one_of HT_.out (by kernel_rfl)) (by decide) (fun K hK => ?_)
    refine Kd.R_lit_step (Kd.int .u8) _ 5 ?hg (N := 17) ?hd (xs := ([(wrap64 (48 + (Int.tmod a0 10))) % 256] : List Int)) (inner := [.int .u8 ((wrap64 (48 + (Int.tmod a0 10))) % 256)]) (ok := fun _ => True) (okp := fun _ => True) ?hr ?hp (fun _ hk => hk) trivial (Below.refl _ _) (Nat.le_refl _) (by simp) ?_; (case hd => rfl); (case hg => rfl); (case hr => first | (go_simp; done) | (go_simp; rfl)); (case hp => exact (Reps.one (show Kd.M (Kd.int .u8) _ _ _ ((wrap64 (48 + (Int.tmod a0 10))) % 256) [.int .u8 ((wrap64 (48 + (Int.tmod a0 10))) % 256)] from rfl) (Reps.none _ _)))
    intro v241 w11 ho12 hb hg_ hnew_
    clear hg_ hnew_
    (first | rw [← Ny240.out] at ho12 | (simp only [Int.reduceToNat] at ho12; rw [← Ny240.out] at ho12))
    have HO242 := A0_ (rL ho12 (bZ (zB_ HB)))
    replace HB := zB HB hb; clear hb ho12
    refine hK.out _ _ trivial (fun hHeld => ?_)
    clear hK K
    refine norm_ (a' := ?_) ?_ ?_
    rotate_left
    ·show Act.put _ (some 17) _ = _
     simp only [Act.put, List.setIfInBounds_toArray, List.set_cons_zero, List.set_cons_succ, i64_w, i32_w]
     rfl
    refine one_ (i := 8) (N := some 18) #[true, true, true, true, true, true, true, true, true, false, false] rfl rfl (one_of HT_.out (by kernel_rfl)) (by decide) (fun K hK => ?_)
    have hcv13 := own_string (P := Tryz.prog) Tryz.underlying22 Tryz.underlying5 Tryz.underlying9 (Kd.own_of_R HO242.out)
    refine value_ (w1 := ?_) (v := ?_) (by rfl) rfl ?_ ?_
    rotate_left 2
    ·go_simp
     constructor
     ·rfl
     rfl
    clear hcv13
    refine hK.out _ _ trivial (fun hHeld => ?_)
    clear hK K
    refine norm_ (a' := ?_) ?_ ?_
    rotate_left
    ·show Act.put _ (some 18) _ = _
     simp only [Act.put, List.setIfInBounds_toArray, List.set_cons_zero, List.set_cons_succ, i64_w, i32_w]
     rfl
    exact norm_ (by simp only [putAll, Act.put, List.setIfInBounds_toArray, List.set_cons_zero, List.set_cons_succ]) (hCont (v241) _ ⟨(zR_ HO242), (zB_ HB)⟩)
   skip
   refine Kd.R_lit_step (Kd.int .u8) _ 5 ?hg (N := 17) ?hd (xs := ([(wrap64 (48 + (Int.tmod a0 10))) % 256] : List Int)) (inner := [.int .u8 ((wrap64 (48 + (Int.tmod a0 10))) % 256)]) (ok := fun _ => True) (okp := fun _ => True) ?hr ?hp (fun _ hk => hk) trivial (Below.refl _ _) (Nat.le_refl _) (by simp) ?_; (case hd => rfl); (case hg => rfl); (case hr => first | (go_simp; done) | (go_simp; rfl)); (case hp => exact (Reps.one (show Kd.M (Kd.int .u8) _ _ _ ((wrap64 (48 + (Int.tmod a0 10))) % 256) [.int .u8 ((wrap64 (48 + (Int.tmod a0 10))) % 256)] from rfl) (Reps.none _ _)))
   intro v241 w10 ho11 hb hg_ hnew_
   clear hg_ hnew_
   (first | rw [← Ny240.out] at ho11 | (simp only [Int.reduceToNat] at ho11; rw [← Ny240.out] at ho11))
   have HO242 := A0_ (rL ho11 (bZ (zB_ HB)))
   replace HB := zB HB hb; clear hb ho11
   refine hK.out _ _ trivial (fun hHeld => ?_)
   clear hK K
   refine norm_ (a' := ?_) ?_ ?_
   rotate_left
   ·show Act.put _ (some 17) _ = _
    simp only [Act.put, List.setIfInBounds_toArray, List.set_cons_zero, List.set_cons_succ, i64_w, i32_w]
    rfl
   refine two_ (i := 2) (j := 8) (Ni := some 12) (Nj := some 18) #[true, true, true, true, true, true, true, true, false, false, false] #[true, true, false, true, true, true, true, true, true, false, false] rfl rfl rfl rfl (two_of HT_.out (by kernel_rfl)) (by decide) (by decide) (fun K hK => ?_) (fun K hK => ?_)
   ·skip
    refine goes_ Tryz.func17 (by kernel_rfl) rfl #[.int .i64 (wrap64 (Int.tdiv a0 10))] (by rfl) rfl rfl (by (try simp only [List.map_toArray, List.map_cons, List.map_nil]); first | done | rfl | (simp only [List.length_drop, List.length_take]; rfl)) ?_
    with_reducible refine (ih k (by omega) (wrap64 (Int.tdiv a0 10)) t239 _ A6.out).mono ?_
    rintro e w12 ⟨rfl, hb⟩
    refine ⟨_, rfl, ?_⟩
    replace HO242 := zR HO242 hb; replace HB := zB HB hb; (try clear hb); (try clear hb2); (try clear hk); (try clear hi)
    refine hK.out _ _ trivial (fun hHeld => ?_)
    clear hK K
    refine norm_ (a' := ?_) ?_ ?_
    rotate_left
    ·show Act.put _ (some 12) _ = _
     simp only [Act.put, List.setIfInBounds_toArray, List.set_cons_zero, List.set_cons_succ, i64_w, i32_w]
     rfl
    refine one_ (i := 8) (N := some 18) #[true, true, true, true, true, true, true, true, true, false, false] rfl rfl (one_of HT_.out (by kernel_rfl)) (by decide) (fun K hK => ?_)
    have hcv13 := own_string (P := Tryz.prog) Tryz.underlying22 Tryz.underlying5 Tryz.underlying9 (Kd.own_of_R HO242.out)
    refine value_ (w1 := ?_) (v := ?_) (by rfl) rfl ?_ ?_
    rotate_left 2
    ·go_simp
     constructor
     ·rfl
     rfl
    clear hcv13
    refine hK.out _ _ trivial (fun hHeld => ?_)
    clear hK K
    refine norm_ (a' := ?_) ?_ ?_
    rotate_left
    ·show Act.put _ (some 18) _ = _
     simp only [Act.put, List.setIfInBounds_toArray, List.set_cons_zero, List.set_cons_succ, i64_w, i32_w]
     rfl
    exact norm_ (by simp only [putAll, Act.put, List.setIfInBounds_toArray, List.set_cons_zero, List.set_cons_succ]) (hCont (v241) _ ⟨(zR_ HO242), (zB_ HB)⟩)
   skip
   have hcv12 := own_string (P := Tryz.prog) Tryz.underlying22 Tryz.underlying5 Tryz.underlying9 (Kd.own_of_R HO242.out)
   refine value_ (w1 := ?_) (v := ?_) (by rfl) rfl ?_ ?_
   rotate_left 2
   ·go_simp
    constructor
    ·rfl
    rfl
   clear hcv12
   refine hK.out _ _ trivial (fun hHeld => ?_)
   clear hK K
   refine norm_ (a' := ?_) ?_ ?_
   rotate_left
   ·show Act.put _ (some 18) _ = _
    simp only [Act.put, List.setIfInBounds_toArray, List.set_cons_zero, List.set_cons_succ, i64_w, i32_w]
    rfl
   refine one_ (i := 2) (N := some 12) #[true, true, true, true, true, true, true, true, true, false, false] rfl rfl (one_of HT_.out (by kernel_rfl)) (by decide) (fun K hK => ?_)
   refine goes_ Tryz.func17 (by kernel_rfl) rfl #[.int .i64 (wrap64 (Int.tdiv a0 10))] (by rfl) rfl rfl (by (try simp only [List.map_toArray, List.map_cons, List.map_nil]); first | done | rfl | (simp only [List.length_drop, List.length_take]; rfl)) ?_
   with_reducible refine (ih k (by omega) (wrap64 (Int.tdiv a0 10)) t239 _ A6.out).mono ?_
   rintro e w13 ⟨rfl, hb⟩
   refine ⟨_, rfl, ?_⟩
   replace HO242 := zR HO242 hb; replace HB := zB HB hb; (try clear hb); (try clear hb2); (try clear hk); (try clear hi)
   refine hK.out _ _ trivial (fun hHeld => ?_)
   clear hK K
   refine norm_ (a' := ?_) ?_ ?_
   rotate_left
   ·show Act.put _ (some 12) _ = _
    simp only [Act.put, List.setIfInBounds_toArray, List.set_cons_zero, List.set_cons_succ, i64_w, i32_w]
    rfl
   exact norm_ (by simp only [putAll, Act.put, List.setIfInBounds_toArray, List.set_cons_zero, List.set_cons_succ]) (hCont (v241) _ ⟨(zR_ HO242), (zB_ HB)⟩)
  rintro v241 w14 ⟨h0_, h1_⟩
  have HO242 : Aside0 (Kd.R (Kd.int .u8) 5 w14 w.heap.size (fun _ => True) v241 y240) := ⟨h0_⟩
  replace HB : Aside0 (Below w.heap.size w w14) := ⟨h1_⟩
  clear h0_ h1_; have hHeld := trivial
  refine norm_ (a' := ?_) ?_ ?_
  rotate_left
  ·simp only [putAll, Act.put, List.setIfInBounds_toArray, List.set_cons_zero, List.set_cons_succ]
   rfl
  refine zP 9 (some 19) #[true,true,true,true,true,true,true,true,true,true,false] ?_
  refine zP 10 (some 2) #[true,true,true,true,true,true,true,true,true,true,true] ?_
  refine done_ (done_of HT_.out (by kernel_rfl)) ?_
  try go_wp2
  go_ret
  exact ⟨by first | rfl | (simp [*] <;> rfl), zB_ HB⟩
 rw [if_neg c7] at H
 exact absurd H (by simp)

/-! ### laws_mapLine: function 11 -/
def laws_mapLine.f (k : Nat) (l0_0 : List Int) (l0_1 : List Int) : Option (ByteArray) := (laws_digits.f k (l0_0.length : Int)).bind fun t244 => (if 4 + t244.size ≤ 9223372036854775807 then (if ((⟨#[109, 97, 112, 32]⟩ : ByteArray) ++ t244).size + 1 ≤ 9223372036854775807 then ((impl_PermText.f k l0_0).bind fun t245 => (if (((⟨#[109, 97, 112, 32]⟩ : ByteArray) ++ t244) ++ (⟨#[32]⟩ : ByteArray)).size + t245.size ≤ 9223372036854775807 then (if ((((⟨#[109, 97, 112, 32]⟩ : ByteArray) ++ t244) ++ (⟨#[32]⟩ : ByteArray)) ++ t245).size + 1 ≤ 9223372036854775807 then ((impl_PermText.f k l0_1).bind fun t246 => (if (((((⟨#[109, 97, 112, 32]⟩ : ByteArray) ++ t244) ++ (⟨#[32]⟩ : ByteArray)) ++ t245) ++ (⟨#[32]⟩ : ByteArray)).size + t246.size ≤ 9223372036854775807 then (if ((((((⟨#[109, 97, 112, 32]⟩ : ByteArray) ++ t244) ++ (⟨#[32]⟩ : ByteArray)) ++ t245) ++ (⟨#[32]⟩ : ByteArray)) ++ t246).size + 1 ≤ 9223372036854775807 then (some (((((((⟨#[109, 97, 112, 32]⟩ : ByteArray) ++ t244) ++ (⟨#[32]⟩ : ByteArray)) ++ t245) ++ (⟨#[32]⟩ : ByteArray)) ++ t246) ++ (⟨#[10]⟩ : ByteArray))) else (none)) else (none))) else (none)) else (none))) else (none)) else (none))
def laws_mapLine.T1 : Bool × List (List Nat × List Nat) := (true, [([], []), ([0], [0]), ([1], [1]), ([2], [2]), ([3], [3]), ([4], [4]), ([], []), ([6], [6]), ([7, 3], [7]), ([5, 8], [5, 8]), ([9], [9]), ([], []), ([11], [11]), ([12, 8], [12]), ([10, 13], [10, 13]), ([14], [14]), ([15, 13, 0, 1, 2, 3, 4, 5, 6, 7, 8, 9, 10, 11, 12, 13, 14, 15], [15])])
def laws_mapLine.B1 : List Nat := [0, 1, 3, 7, 15, 31, 0, 64, 207, 511, 1023, 0, 2048, 6607, 16383, 32767, 65535]
theorem laws_mapLine.tab1 : rtab .any (opsOf Tryz.f11 1) = laws_mapLine.T1 := by kernel_rfl
theorem laws_mapLine.bits1 : waitsOk laws_mapLine.T1.2 laws_mapLine.B1 = true := by kernel_rfl
set_option maxHeartbeats 8000000 in
set_option maxRecDepth 100000 in
theorem laws_mapLine.calls (k : Nat) (A0_0 : Option Addr) (c0_0 : Nat) (l0_0 : List Int) (A0_1 : Option Addr) (c0_1 : Nat) (l0_1 : List Int) (r : ByteArray) (w : World) (hr0_0 : Kd.C (Kd.int .i64) w A0_0 l0_0.length l0_0) (hc0_0 : l0_0.length ≤ c0_0) (hr0_1 : Kd.C (Kd.int .i64) w A0_1 l0_1.length l0_1) (hc0_1 : l0_1.length ≤ c0_1) (h : laws_mapLine.f k l0_0 l0_1 = some r) :
    Calls Tryz.prog 11 #[.agg #[.slice A0_0 l0_0.length c0_0, .slice A0_1 l0_1.length c0_1]] w fun e w' => e = .returned (.string r) ∧ Below w.heap.size w w' := by
 have hu25 := Tryz.underlying25; have HR0_0 := A0_ hr0_0; have HC0_0 := A0_ hc0_0; clear hr0_0 hc0_0; have HR0_1 := A0_ hr0_1; have HC0_1 := A0_ hc0_1; clear hr0_1 hc0_1
 have HB := A0_ (Below.refl w.heap.size w)
 have H : ((laws_digits.f k (l0_0.length : Int)).bind fun t244 => (if 4 + t244.size ≤ 9223372036854775807 then (if ((⟨#[109, 97, 112, 32]⟩ : ByteArray) ++ t244).size + 1 ≤ 9223372036854775807 then ((impl_PermText.f k l0_0).bind fun t245 => (if (((⟨#[109, 97, 112, 32]⟩ : ByteArray) ++ t244) ++ (⟨#[32]⟩ : ByteArray)).size + t245.size ≤ 9223372036854775807 then (if ((((⟨#[109, 97, 112, 32]⟩ : ByteArray) ++ t244) ++ (⟨#[32]⟩ : ByteArray)) ++ t245).size + 1 ≤ 9223372036854775807 then ((impl_PermText.f k l0_1).bind fun t246 => (if (((((⟨#[109, 97, 112, 32]⟩ : ByteArray) ++ t244) ++ (⟨#[32]⟩ : ByteArray)) ++ t245) ++ (⟨#[32]⟩ : ByteArray)).size + t246.size ≤ 9223372036854775807 then (if ((((((⟨#[109, 97, 112, 32]⟩ : ByteArray) ++ t244) ++ (⟨#[32]⟩ : ByteArray)) ++ t245) ++ (⟨#[32]⟩ : ByteArray)) ++ t246).size + 1 ≤ 9223372036854775807 then (some (((((((⟨#[109, 97, 112, 32]⟩ : ByteArray) ++ t244) ++ (⟨#[32]⟩ : ByteArray)) ++ t245) ++ (⟨#[32]⟩ : ByteArray)) ++ t246) ++ (⟨#[10]⟩ : ByteArray))) else (none)) else (none))) else (none)) else (none))) else (none)) else (none))) = some r := h
 clear h; obtain ⟨t244, A2, H⟩ := zbind H
 by_cases c3 : 4 + t244.size ≤ 9223372036854775807
 ·rw [if_pos c3] at H
  have c3b0 := eq_true c3; have c3b1 := dT c3
  try have c3b2 : (9223372036854775807 < 4 + t244.size) = False := eq_false (Nat.not_lt.2 c3)
  obtain ⟨zs4, hzs4⟩ : ∃ j_ : ByteArray, ((⟨#[109, 97, 112, 32]⟩ : ByteArray) ++ t244) = j_ := ⟨_, rfl⟩
  replace H : (if zs4.size + 1 ≤ 9223372036854775807 then ((impl_PermText.f k l0_0).bind fun t245 => (if (zs4 ++ (⟨#[32]⟩ : ByteArray)).size + t245.size ≤ 9223372036854775807 then (if ((zs4 ++ (⟨#[32]⟩ : ByteArray)) ++ t245).size + 1 ≤ 9223372036854775807 then ((impl_PermText.f k l0_1).bind fun t246 => (if (((zs4 ++ (⟨#[32]⟩ : ByteArray)) ++ t245) ++ (⟨#[32]⟩ : ByteArray)).size + t246.size ≤ 9223372036854775807 then (if ((((zs4 ++ (⟨#[32]⟩ : ByteArray)) ++ t245) ++ (⟨#[32]⟩ : ByteArray)) ++ t246).size + 1 ≤ 9223372036854775807 then (some (((((zs4 ++ (⟨#[32]⟩ : ByteArray)) ++ t245) ++ (⟨#[32]⟩ : ByteArray)) ++ t246) ++ (⟨#[10]⟩ : ByteArray))) else (none)) else (none))) else (none)) else (none))) else (none)) = some r := by first | (rw [hzs4] at H; exact H) | (simp only [hzs4] at H ⊢; exact H) | exact H
  (try rw [hzs4] at A2)
  by_cases c5 : zs4.size + 1 ≤ 9223372036854775807
  ·rw [if_pos c5] at H
   have c5b0 := eq_true c5; have c5b1 := dT c5
   try have c5b2 : (9223372036854775807 < zs4.size + 1) = False := eq_false (Nat.not_lt.2 c5)
   obtain ⟨zs6, hzs6⟩ : ∃ j_ : ByteArray, (zs4 ++ (⟨#[32]⟩ : ByteArray)) = j_ := ⟨_, rfl⟩
   replace H : ((impl_PermText.f k l0_0).bind fun t245 => (if zs6.size + t245.size ≤ 9223372036854775807 then (if (zs6 ++ t245).size + 1 ≤ 9223372036854775807 then ((impl_PermText.f k l0_1).bind fun t246 => (if ((zs6 ++ t245) ++ (⟨#[32]⟩ : ByteArray)).size + t246.size ≤ 9223372036854775807 then (if (((zs6 ++ t245) ++ (⟨#[32]⟩ : ByteArray)) ++ t246).size + 1 ≤ 9223372036854775807 then (some ((((zs6 ++ t245) ++ (⟨#[32]⟩ : ByteArray)) ++ t246) ++ (⟨#[10]⟩ : ByteArray))) else (none)) else (none))) else (none)) else (none))) = some r := by first | (rw [hzs6] at H; exact H) | (simp only [hzs6] at H ⊢; exact H) | exact H
   (try rw [hzs6] at A2)
   obtain ⟨t245, A7, H⟩ := zbind H
   by_cases c8 : zs6.size + t245.size ≤ 9223372036854775807
   ·rw [if_pos c8] at H
    have c8b0 := eq_true c8; have c8b1 := dT c8
    try have c8b2 : (9223372036854775807 < zs6.size + t245.size) = False := eq_false (Nat.not_lt.2 c8)
    obtain ⟨zs9, hzs9⟩ : ∃ j_ : ByteArray, (zs6 ++ t245) = j_ := ⟨_, rfl⟩
    replace H : (if zs9.size + 1 ≤ 9223372036854775807 then ((impl_PermText.f k l0_1).bind fun t246 => (if (zs9 ++ (⟨#[32]⟩ : ByteArray)).size + t246.size ≤ 9223372036854775807 then (if ((zs9 ++ (⟨#[32]⟩ : ByteArray)) ++ t246).size + 1 ≤ 9223372036854775807 then (some (((zs9 ++ (⟨#[32]⟩ : ByteArray)) ++ t246) ++ (⟨#[10]⟩ : ByteArray))) else (none)) else (none))) else (none)) = some r := by first | (rw [hzs9] at H; exact H) | (simp only [hzs9] at H ⊢; exact H) | exact H
    (try rw [hzs9] at A2)
    (try rw [hzs9] at A7)
    by_cases c10 : zs9.size + 1 ≤ 9223372036854775807
    ·rw [if_pos c10] at H
     have c10b0 := eq_true c10; have c10b1 := dT c10
     try have c10b2 : (9223372036854775807 < zs9.size + 1) = False := eq_false (Nat.not_lt.2 c10)
     obtain ⟨zs11, hzs11⟩ : ∃ j_ : ByteArray, (zs9 ++ (⟨#[32]⟩ : ByteArray)) = j_ := ⟨_, rfl⟩
     replace H : ((impl_PermText.f k l0_1).bind fun t246 => (if zs11.size + t246.size ≤ 9223372036854775807 then (if (zs11 ++ t246).size + 1 ≤ 9223372036854775807 then (some ((zs11 ++ t246) ++ (⟨#[10]⟩ : ByteArray))) else (none)) else (none))) = some r := by first | (rw [hzs11] at H; exact H) | (simp only [hzs11] at H ⊢; exact H) | exact H
     (try rw [hzs11] at A2)
     (try rw [hzs11] at A7)
     obtain ⟨t246, A12, H⟩ := zbind H
     by_cases c13 : zs11.size + t246.size ≤ 9223372036854775807
     ·rw [if_pos c13] at H
      have c13b0 := eq_true c13; have c13b1 := dT c13
      try have c13b2 : (9223372036854775807 < zs11.size + t246.size) = False := eq_false (Nat.not_lt.2 c13)
      obtain ⟨zs14, hzs14⟩ : ∃ j_ : ByteArray, (zs11 ++ t246) = j_ := ⟨_, rfl⟩
      replace H : (if zs14.size + 1 ≤ 9223372036854775807 then (some (zs14 ++ (⟨#[10]⟩ : ByteArray))) else (none)) = some r := by first | (rw [hzs14] at H; exact H) | (simp only [hzs14] at H ⊢; exact H) | exact H
      (try rw [hzs14] at A2)
      (try rw [hzs14] at A7)
      (try rw [hzs14] at A12)
      by_cases c15 : zs14.size + 1 ≤ 9223372036854775807
      ·rw [if_pos c15] at H
       have c15b0 := eq_true c15; have c15b1 := dT c15
       try have c15b2 : (9223372036854775807 < zs14.size + 1) = False := eq_false (Nat.not_lt.2 c15)
       obtain ⟨zs16, hzs16⟩ : ∃ j_ : ByteArray, (zs14 ++ (⟨#[10]⟩ : ByteArray)) = j_ := ⟨_, rfl⟩
       replace H : (some zs16) = some r := by first | (rw [hzs16] at H; exact H) | (simp only [hzs16] at H ⊢; exact H) | exact H
       (try rw [hzs16] at A2)
       (try rw [hzs16] at A7)
       (try rw [hzs16] at A12)
       obtain rfl := sI H
       go_enter Tryz.func11, Tryz.ntmps11
       try go_wp2_with (first | ((with_reducible refine gD (N := 1) rfl ?_); refine zX (N := 1) (cs := #[.slice A0_0 l0_0.length c0_0, .slice A0_1 l0_1.length c0_1]) (t := 25) ?_; intro gb243 hg w17 hbox hb; have BK243 := A0_ (hbox); have GW243 := zG hg HB; have GE243 := zG hg HB; replace HB := zB HB hb; clear hb hbox hg))
       replace BK243 := A0_ (kD BK243.out)
       replace HB := A0_ (bD HB.out)
       refine start_ (n := 17) (S := fun w' => w'.cell? ⟨gb243, 0, none⟩ = some (.slice A0_0 l0_0.length c0_0) ∧ w'.cell? ⟨gb243, 1, none⟩ = some (.slice A0_1 l0_1.length c0_1)) (ds := []) #[false, false, false, false, false, false, false, false, false, false, false, false, false, false, false, false, false] (by kernel_rfl) rfl rfl ⟨(kC BK243.out 0).trans rfl, (kC BK243.out 1).trans rfl⟩ (fun hHeld => ?_); refine with_tabW laws_mapLine.tab1 laws_mapLine.bits1 (fun HT_ HW_ => ?_)
       generalize w17.drew = w18 at BK243 HB hHeld ⊢
       refine zP 0 (some 3) #[true,false,false,false,false,false,false,false,false,false,false,false,false,false,false,false,false] ?_
       refine zP 6 (some 9) #[true,false,false,false,false,false,true,false,false,false,false,false,false,false,false,false,false] ?_
       refine zP 11 (some 14) #[true,false,false,false,false,false,true,false,false,false,false,true,false,false,false,false,false] ?_
       refine take_ (i := 1) (N := some 4) (v := ?_) (a' := ?_) #[true, true, false, false, false, false, true, false, false, false, false, true, false, false, false, false, false] rfl rfl (take_ofW HT_.out HW_.out (by kernel_rfl)) (fun _ _ _ h => h) (Or.inl ⟨by rfl, ?_⟩) hHeld ?_ ?_
       rotate_left
       ·rintro w' ⟨s0, s1⟩
        go_simp
        with_reducible rfl
       rotate_left
       ·simp only [Act.put, List.setIfInBounds_toArray, List.set_cons_zero, List.set_cons_succ, i64_w, i32_w]
        rfl
       refine zP 2 (some 5) #[true,true,true,false,false,false,true,false,false,false,false,true,false,false,false,false,false] ?_
       refine take_ (i := 7) (N := some 10) (v := ?_) (a' := ?_) #[true, true, true, false, false, false, true, true, false, false, false, true, false, false, false, false, false] rfl rfl (take_ofW HT_.out HW_.out (by kernel_rfl)) (fun _ _ _ h => h) (Or.inl ⟨by rfl, ?_⟩) hHeld ?_ ?_
       rotate_left
       ·rintro w' ⟨s0, s1⟩
        go_simp
        with_reducible rfl
       rotate_left
       ·simp only [Act.put, List.setIfInBounds_toArray, List.set_cons_zero, List.set_cons_succ, i64_w, i32_w]
        rfl
       refine take_ (i := 12) (N := some 15) (v := ?_) (a' := ?_) #[true, true, true, false, false, false, true, true, false, false, false, true, true, false, false, false, false] rfl rfl (take_ofW HT_.out HW_.out (by kernel_rfl)) (fun _ _ _ h => h) (Or.inl ⟨by rfl, ?_⟩) hHeld ?_ ?_
       rotate_left
       ·rintro w' ⟨s0, s1⟩
        go_simp
        with_reducible rfl
       rotate_left
       ·simp only [Act.put, List.setIfInBounds_toArray, List.set_cons_zero, List.set_cons_succ, i64_w, i32_w]
        rfl
       refine one_ (i := 3) (N := some 6) #[true, true, true, true, false, false, true, true, false, false, false, true, true, false, false, false, false] rfl rfl (one_of HT_.out (by kernel_rfl)) (by decide) (fun K hK => ?_)
       refine goes_ Tryz.func17 (by kernel_rfl) rfl #[.int .i64 (l0_0.length : Int)] (by rfl) rfl rfl (by (try simp only [List.map_toArray, List.map_cons, List.map_nil]); first | done | rfl | (simp only [List.length_drop, List.length_take]; rfl)) ?_
       with_reducible refine (laws_digits.calls k (l0_0.length : Int) t244 _ A2.out).mono ?_
       rintro e w19 ⟨rfl, hb⟩
       refine ⟨_, rfl, ?_⟩
       replace BK243 := zK BK243 hb; replace HB := zB HB hb; (try clear hb); (try clear hb2); (try clear hk); (try clear hi)
       refine hK.out _ _ ⟨(kC BK243.out 0).trans rfl, (kC BK243.out 1).trans rfl⟩ (fun hHeld => ?_)
       clear hK K
       refine norm_ (a' := ?_) ?_ ?_
       rotate_left
       ·show Act.put _ (some 6) _ = _
        simp only [Act.put, List.setIfInBounds_toArray, List.set_cons_zero, List.set_cons_succ, i64_w, i32_w]
        rfl
       refine zP 4 (some 7) #[true,true,true,true,true,false,true,true,false,false,false,true,true,false,false,false,false] ?_
       refine zP 5 (some 8) #[true,true,true,true,true,true,true,true,false,false,false,true,true,false,false,false,false] ?_
       refine one_ (i := 8) (N := some 11) #[true, true, true, true, true, true, true, true, true, false, false, true, true, false, false, false, false] rfl rfl (one_of HT_.out (by kernel_rfl)) (by decide) (fun K hK => ?_)
       refine goes_ Tryz.func37 (by kernel_rfl) rfl #[.slice A0_0 l0_0.length c0_0] (by rfl) rfl rfl (by (try simp only [List.map_toArray, List.map_cons, List.map_nil]); first | done | rfl | (simp only [List.length_drop, List.length_take]; rfl)) ?_
       with_reducible refine (impl_PermText.calls k _ _ l0_0 t245 _ ?side1 ?side2 A7.out).mono ?_
       (case side1 => exact zC HR0_0 HB)
       (case side2 => exact HC0_0.out)
       rintro e w20 ⟨rfl, hb⟩
       refine ⟨_, rfl, ?_⟩
       replace BK243 := zK BK243 hb; replace HB := zB HB hb; (try clear hb); (try clear hb2); (try clear hk); (try clear hi)
       refine hK.out _ _ ⟨(kC BK243.out 0).trans rfl, (kC BK243.out 1).trans rfl⟩ (fun hHeld => ?_)
       clear hK K
       refine norm_ (a' := ?_) ?_ ?_
       rotate_left
       ·show Act.put _ (some 11) _ = _
        simp only [Act.put, List.setIfInBounds_toArray, List.set_cons_zero, List.set_cons_succ, i64_w, i32_w]
        rfl
       refine zP 9 (some 12) #[true,true,true,true,true,true,true,true,true,true,false,true,true,false,false,false,false] ?_
       refine zP 10 (some 13) #[true,true,true,true,true,true,true,true,true,true,true,true,true,false,false,false,false] ?_
       refine one_ (i := 13) (N := some 16) #[true, true, true, true, true, true, true, true, true, true, true, true, true, true, false, false, false] rfl rfl (one_of HT_.out (by kernel_rfl)) (by decide) (fun K hK => ?_)
       refine goes_ Tryz.func37 (by kernel_rfl) rfl #[.slice A0_1 l0_1.length c0_1] (by rfl) rfl rfl (by (try simp only [List.map_toArray, List.map_cons, List.map_nil]); first | done | rfl | (simp only [List.length_drop, List.length_take]; rfl)) ?_
       with_reducible refine (impl_PermText.calls k _ _ l0_1 t246 _ ?side1 ?side2 A12.out).mono ?_
       (case side1 => exact zC HR0_1 HB)
       (case side2 => exact HC0_1.out)
       rintro e w21 ⟨rfl, hb⟩
       refine ⟨_, rfl, ?_⟩
       replace BK243 := zK BK243 hb; replace HB := zB HB hb; (try clear hb); (try clear hb2); (try clear hk); (try clear hi)
       refine hK.out _ _ ⟨(kC BK243.out 0).trans rfl, (kC BK243.out 1).trans rfl⟩ (fun hHeld => ?_)
       clear hK K
       refine norm_ (a' := ?_) ?_ ?_
       rotate_left
       ·show Act.put _ (some 16) _ = _
        simp only [Act.put, List.setIfInBounds_toArray, List.set_cons_zero, List.set_cons_succ, i64_w, i32_w]
        rfl
       refine zP 14 (some 17) #[true,true,true,true,true,true,true,true,true,true,true,true,true,true,true,false,false] ?_
       refine zP 15 (some 18) #[true,true,true,true,true,true,true,true,true,true,true,true,true,true,true,true,false] ?_
       refine zP 16 (some 2) #[true,true,true,true,true,true,true,true,true,true,true,true,true,true,true,true,true] ?_
       refine done_ (done_of HT_.out (by kernel_rfl)) ?_
       try go_wp2
       go_ret
       exact ⟨by first | rfl | (simp [*] <;> rfl), zB_ HB⟩
      rw [if_neg c15] at H
      exact absurd H (by simp)
     rw [if_neg c13] at H
     exact absurd H (by simp)
    rw [if_neg c10] at H
    exact absurd H (by simp)
   rw [if_neg c8] at H
   exact absurd H (by simp)
  rw [if_neg c5] at H
  exact absurd H (by simp)
 rw [if_neg c3] at H
 exact absurd H (by simp)

/-! ### laws_endLine: function 13 -/
def laws_endLine.f (k : Nat) (a0 : Int) : Option (ByteArray) := (laws_digits.f k a0).bind fun t247 => (if 6 + t247.size ≤ 9223372036854775807 then (if ((⟨#[100, 97, 114, 116, 115, 32]⟩ : ByteArray) ++ t247).size + 1 ≤ 9223372036854775807 then (some (((⟨#[100, 97, 114, 116, 115, 32]⟩ : ByteArray) ++ t247) ++ (⟨#[10]⟩ : ByteArray))) else (none)) else (none))
set_option maxHeartbeats 8000000 in
set_option maxRecDepth 100000 in
theorem laws_endLine.calls (k : Nat) (a0 : Int) (r : ByteArray) (w : World) (h : laws_endLine.f k a0 = some r) :
    Calls Tryz.prog 13 #[.int .i64 a0] w fun e w' => e = .returned (.string r) ∧ Below w.heap.size w w' := by
 have HB := A0_ (Below.refl w.heap.size w)
 have H : ((laws_digits.f k a0).bind fun t247 => (if 6 + t247.size ≤ 9223372036854775807 then (if ((⟨#[100, 97, 114, 116, 115, 32]⟩ : ByteArray) ++ t247).size + 1 ≤ 9223372036854775807 then (some (((⟨#[100, 97, 114, 116, 115, 32]⟩ : ByteArray) ++ t247) ++ (⟨#[10]⟩ : ByteArray))) else (none)) else (none))) = some r := h
 clear h; obtain ⟨t247, A2, H⟩ := zbind H
 by_cases c3 : 6 + t247.size ≤ 9223372036854775807
 ·rw [if_pos c3] at H
  have c3b0 := eq_true c3; have c3b1 := dT c3
  try have c3b2 : (9223372036854775807 < 6 + t247.size) = False := eq_false (Nat.not_lt.2 c3)
  obtain ⟨zs4, hzs4⟩ : ∃ j_ : ByteArray, ((⟨#[100, 97, 114, 116, 115, 32]⟩ : ByteArray) ++ t247) = j_ := ⟨_, rfl⟩
  replace H : (if zs4.size + 1 ≤ 9223372036854775807 then (some (zs4 ++ (⟨#[10]⟩ : ByteArray))) else (none)) = some r := by first | (rw [hzs4] at H; exact H) | (simp only [hzs4] at H ⊢; exact H) | exact H
  (try rw [hzs4] at A2)
  by_cases c5 : zs4.size + 1 ≤ 9223372036854775807
  ·rw [if_pos c5] at H
   have c5b0 := eq_true c5; have c5b1 := dT c5
   try have c5b2 : (9223372036854775807 < zs4.size + 1) = False := eq_false (Nat.not_lt.2 c5)
   obtain ⟨zs6, hzs6⟩ : ∃ j_ : ByteArray, (zs4 ++ (⟨#[10]⟩ : ByteArray)) = j_ := ⟨_, rfl⟩
   replace H : (some zs6) = some r := by first | (rw [hzs6] at H; exact H) | (simp only [hzs6] at H ⊢; exact H) | exact H
   (try rw [hzs6] at A2)
   obtain rfl := sI H
   go_enter Tryz.func13, Tryz.ntmps13
   go_wp2_with (first | ((with_reducible refine gC (f := 17) rfl ?_); refine zJ (some 4) Tryz.func17 #[.int .i64 a0] ?_; (with_reducible refine (laws_digits.calls k a0 t247 _ A2.out).mono ?_); rintro e w7 ⟨rfl, hb⟩; refine ⟨_, rfl, ?_⟩; replace HB := zB HB hb; (try clear hb)))
   go_ret
   exact ⟨by first | rfl | (simp [*] <;> rfl), zB_ HB⟩
  rw [if_neg c5] at H
  exact absurd H (by simp)
 rw [if_neg c3] at H
 exact absurd H (by simp)

/-- A state of type 76 at block g of W; what its slices lead to came in by w0. -/
def IsS76 (w0 W : World) (g : Nat) (f0 : List Int) (f1 : Int) : Prop := ∃ A0 c0, W.heap[g]? = some (.cells #[.slice A0 f0.length c0, .int .i64 f1] 76 (0, 0)) ∧ w0.heap.size ≤ g ∧ Kd.C (Kd.int .u8) w0 A0 f0.length f0
theorem IsS76.grown {w0 W : World} {g : Nat} {f0 : List Int} {f1 : Int} {W1 : World} {row : Option Nat} (h : IsS76 w0 W g f0 f1) (hw : W.grownBy W1 row) (hne : some g ≠ row) : IsS76 w0 W1 g f0 f1 := by
  obtain ⟨A0, c0, hb, hg, hr0⟩ := h
  exact ⟨A0, c0, blk_grown hb hw hne, hg, hr0⟩
theorem IsS76.own_neN {w0 W : World} {g : Nat} {f0 : List Int} {f1 : Int} {α : Type} {d : Kd α} {e : Nat} {base : Nat} {ok : Nat → Prop} {v : Value} {xs : List α} (h : IsS76 w0 W g f0 f1) (ho : Kd.N d e W base ok v xs) (ht : e ≠ 76) : some g ≠ v.ownBlock := by
  obtain ⟨A0, c0, hb, hg, hr0⟩ := h
  exact Kd.N_ne ho hb ht
theorem IsS76.fresh {w0 W : World} {g : Nat} {f0 : List Int} {f1 : Int} (h : IsS76 w0 W g f0 f1) : ∀ k, W.heap.size ≤ k → k ≠ g := by
  obtain ⟨A0, c0, hb, hg, hr0⟩ := h
  exact Kd.freshB hb
theorem IsS76.kept {w0 W : World} {g : Nat} {f0 : List Int} {f1 : Int} {W1 : World} {S : Nat → Prop} (h : IsS76 w0 W g f0 f1) (hk : Kept W W1 S) (hne : ¬ S g) : IsS76 w0 W1 g f0 f1 := by
  obtain ⟨A0, c0, hb, hg, hr0⟩ := h
  exact ⟨A0, c0, blk_kept hb hk hne, hg, hr0⟩
theorem IsS76.below {w0 W : World} {g : Nat} {f0 : List Int} {f1 : Int} {W1 : World} (h : IsS76 w0 W g f0 f1) (hw : Below W.heap.size W W1) : IsS76 w0 W1 g f0 f1 := h.grown (grown_of_below hw none) (by simp)
theorem IsS76.alloc {w0 W : World} {g : Nat} {f0 : List Int} {f1 : Int} (h : IsS76 w0 W g f0 f1) (o : Obj) : IsS76 w0 (W.alloc o) g f0 f1 := h.below (bA (Below.refl _ _) o)
theorem IsS76.drewN {w0 W : World} {g : Nat} {f0 : List Int} {f1 : Int} (h : IsS76 w0 W g f0 f1) (m : Nat) : IsS76 w0 (W.drewN m) g f0 f1 := h
theorem IsS76.drew {w0 W : World} {g : Nat} {f0 : List Int} {f1 : Int} (h : IsS76 w0 W g f0 f1) : IsS76 w0 W.drew g f0 f1 := h
theorem IsS76.at_ {w0 W : World} {g : Nat} {f0 : List Int} {f1 : Int} {w' : World} {m : Nat} (hq : W.drewN m = w') (h : IsS76 w0 W g f0 f1) : IsS76 w0 w' g f0 f1 := by subst hq; exact IsS76.drewN h m
theorem IsS76.apart {w0 W : World} {g : Nat} {f0 : List Int} {f1 : Int} {α : Type} {d : Kd α} {e : Nat} {base : Nat} {ok : Nat → Prop} {v : Value} {xs : List α} (h : IsS76 w0 W g f0 f1) (ho : d.R e W base ok v xs) (ht : ∀ q, q ∈ e :: d.E → q ≠ 76) : d.R e W base (fun k => ok k ∧ k ≠ g) v xs := by
  obtain ⟨A0, c0, hb, hg, hr0⟩ := h
  exact rY ho hb ht
theorem IsS76.own_ne {w0 W : World} {g : Nat} {f0 : List Int} {f1 : Int} {α : Type} {d : Kd α} {e : Nat} {base : Nat} {ok : Nat → Prop} {v : Value} {xs : List α} (h : IsS76 w0 W g f0 f1) (ho : d.R e W base ok v xs) (ht : e ≠ 76) : some g ≠ v.ownBlock := by
  obtain ⟨A0, c0, hb, hg, hr0⟩ := h
  exact Kd.R_ne ho hb ht
theorem IsS76.apartQ {w0 W : World} {g : Nat} {f0 : List Int} {f1 : Int} {α : Type} {d : Kd α} {e : Nat} {base : Nat} {ok : Nat → Prop} {v : Value} {xs : List α} (h : IsS76 w0 W g f0 f1) (ho : d.Q e W base ok v xs) (ht : ∀ q, q ∈ e :: d.E → q ≠ 76) : d.Q e W base (fun k => ok k ∧ k ≠ g) v xs := by
  obtain ⟨A0, c0, hb, hg, hr0⟩ := h
  exact Kd.Q_types ho hb ht
theorem IsS76.own_neQ {w0 W : World} {g : Nat} {f0 : List Int} {f1 : Int} {α : Type} {d : Kd α} {e : Nat} {base : Nat} {ok : Nat → Prop} {v : Value} {xs : List α} (h : IsS76 w0 W g f0 f1) (ho : d.Q e W base ok v xs) (ht : e ≠ 76) : some g ≠ v.ownBlock := by
  obtain ⟨A0, c0, hb, hg, hr0⟩ := h
  exact Kd.Q_ne ho hb ht
theorem IsS76.apartS {w0 W : World} {g : Nat} {f0 : List Int} {f1 : Int} {α : Type} {d : Kd α} {e : Nat} {base : Nat} {ok : Nat → Prop} {v : Value} {xs : List α} (h : IsS76 w0 W g f0 f1) (ho : d.S e W base ok v xs) (ht : ∀ q, q ∈ e :: d.E → q ≠ 76) : d.S e W base (fun k => ok k ∧ k ≠ g) v xs := by
  obtain ⟨A0, c0, hb, hg, hr0⟩ := h
  exact Kd.S_types ho hb ht
theorem IsS76.own_neS {w0 W : World} {g : Nat} {f0 : List Int} {f1 : Int} {α : Type} {d : Kd α} {e : Nat} {base : Nat} {ok : Nat → Prop} {v : Value} {xs : List α} (h : IsS76 w0 W g f0 f1) (ho : d.S e W base ok v xs) (ht : e ≠ 76) : some g ≠ v.ownBlock := by
  obtain ⟨A0, c0, hb, hg, hr0⟩ := h
  exact Kd.S_ne ho hb ht
theorem IsS76.lt {w0 W : World} {g : Nat} {f0 : List Int} {f1 : Int} (h : IsS76 w0 W g f0 f1) : g < W.heap.size := by
  obtain ⟨A0, c0, hb, hg, hr0⟩ := h
  exact kL hb
theorem IsS76.ge {w0 W : World} {g : Nat} {f0 : List Int} {f1 : Int} (h : IsS76 w0 W g f0 f1) : w0.heap.size ≤ g := by
  obtain ⟨A0, c0, hb, hg, hr0⟩ := h
  exact hg
theorem IsS76.ne_blk {w0 W : World} {g : Nat} {f0 : List Int} {f1 : Int} {a : Nat} {cs : Array Value} {t : TypeId} {fr : Nat × Nat} (h : IsS76 w0 W g f0 f1) (hb2 : W.heap[a]? = some (.cells cs t fr)) (ht : t ≠ 76) : g ≠ a := by
  obtain ⟨A0, c0, hb, hg, hr0⟩ := h
  rintro rfl
  rw [hb] at hb2
  injection hb2 with hb2
  injection hb2 with _ ht2
  exact ht ht2.symm
theorem IsS76.far {w0 W : World} {g : Nat} {f0 : List Int} {f1 : Int} {p : Addr} (h : IsS76 w0 W g f0 f1) (hne : g ≠ p.block) (u : Value) : IsS76 w0 (W.setCell p u) g f0 f1 := by
  obtain ⟨A0, c0, hb, hg, hr0⟩ := h
  exact ⟨A0, c0, blk_far hb hne u, hg, hr0⟩
theorem cellS76_0 {W : World} {g : Nat} {A0 : Option Addr} {c0 : Nat} {f0 : List Int} {f1 : Int} (h : W.heap[g]? = some (.cells #[.slice A0 f0.length c0, .int .i64 f1] 76 (0, 0))) : W.cell? ⟨g, 0, none⟩ = some (.slice A0 f0.length c0) := (kC h 0).trans rfl
theorem cellS76_1 {W : World} {g : Nat} {A0 : Option Addr} {c0 : Nat} {f0 : List Int} {f1 : Int} (h : W.heap[g]? = some (.cells #[.slice A0 f0.length c0, .int .i64 f1] 76 (0, 0))) : W.cell? ⟨g, 1, none⟩ = some (.int .i64 f1) := (kC h 1).trans rfl
theorem IsS76.set_1 {w0 W : World} {g : Nat} {f0 : List Int} {f1 : Int} (h : IsS76 w0 W g f0 f1) (x : Int) : IsS76 w0 (W.setCell ⟨g, 1, none⟩ (.int .i64 x)) g f0 x := by
  obtain ⟨A0, c0, hb, hg, hr0⟩ := h
  exact ⟨A0, c0, by simpa using blk_set hb 1 (.int .i64 x), hg, hr0⟩
theorem IsS76.new (w0 W : World) (A0 : Option Addr) (c0 : Nat) (f0 : List Int) (f1 : Int) (hB : Below w0.heap.size w0 W) (hr0 : Kd.C (Kd.int .u8) w0 A0 f0.length f0) : IsS76 w0 (W.alloc (.cells #[.slice A0 f0.length c0, .int .i64 f1] 76)) W.heap.size f0 f1 := ⟨A0, c0, by simpa using heap_alloc_new W _, hB.size, hr0⟩

/-! ### spec_l6Open: function 21 -/
def spec_l6Open.f (l0 : List Int) : Option (List Int × Int) := if (l0.length : Int) > 2000 then (if 2000 ≤ (l0.length : Int) then (some (l0.take 2000, 0)) else (none)) else (some (l0, 0))
set_option maxHeartbeats 8000000 in
set_option maxRecDepth 100000 in
theorem spec_l6Open.calls (A0 : Option Addr) (c0 : Nat) (l0 : List Int) (r1 : List Int) (r2 : Int) (w0 w : World) (hB : Below w0.heap.size w0 w) (hr0 : Kd.C (Kd.int .u8) w0 A0 l0.length l0) (hc0 : l0.length ≤ c0) (h : spec_l6Open.f l0 = some (r1, r2)) :
    Calls Tryz.prog 21 #[.slice A0 l0.length c0] w fun e w' => ∃ g_ : Nat, e = .returned (.pointer (some ⟨g_, 0, none⟩)) ∧ IsS76 w0 w' g_ r1 r2 ∧ Below w0.heap.size w0 w' ∧ Below w.heap.size w w' := by
 have hu76 := Tryz.underlying76; have HR0 := A0_ hr0; have HC0 := A0_ hc0; clear hr0 hc0
 have HBW := A0_ (Below.refl w.heap.size w)
 have HW0 := A0_ hB.size; have HB := A0_ hB; clear hB
 have H : (if (l0.length : Int) > 2000 then (if 2000 ≤ (l0.length : Int) then (some (l0.take 2000, 0)) else (none)) else (some (l0, 0))) = some (r1, r2) := h
 clear h
 by_cases c2 : (l0.length : Int) > 2000
 ·rw [if_pos c2] at H
  have c2b0 : decide (2000 < (l0.length : Int)) = true := dT c2
  have c2b1 : decide (2000 < l0.length) = true := dT (by omega)
  clear c2
  by_cases c3 : 2000 ≤ (l0.length : Int)
  ·rw [if_pos c3] at H
   have c3b0 := eq_true c3; have c3b1 := dT c3; clear c3; simp only [Option.some.injEq, Prod.mk.injEq] at H; obtain ⟨rfl, rfl⟩ := H; obtain ⟨i04, hi04, _, hsz4, _⟩ := info_parts info5
   obtain ⟨hcut4, hA4, hC4⟩ := print_take_of (P := Tryz.prog) (Value.int .u8) 0 22 5 .i64 Tryz.underlying22 hi04 hsz4 A0 c0 l0 2000 (by omega) (zd) HC0.out
   have HR248 := A0_ (Kd.C_of_reads (h1 := fun _ => rfl) (hA4 _ (Kd.reads_of_C HR0.out)))
   have HC248 := A0_ hC4; clear hA4 hC4 hi04 hsz4
   go_enter Tryz.func21, Tryz.ntmps21
   go_wp2_with (first | ((with_reducible refine gD (N := 10) rfl ?_); refine zX (N := 10) (cs := #[.slice A0 (l0.take 2000).length c0, .int .i64 0]) (t := 76) ?_; intro gb249 hg w5 hbox hb; replace HB := zB HB hb; have BK249 := A0_ (hbox); have GW249 := A0_ ((by rw [hg]; exact (bZ (by repeat (first | (with_reducible first | exact HBW.out | apply bA | apply bN | apply bD) | exact HBW.out))) : w.heap.size ≤ gb249)); have GE249 := A0_ ((Nat.le_trans HW0.out (by rw [hg]; exact (bZ (by repeat (first | (with_reducible first | exact HBW.out | apply bA | apply bN | apply bD) | exact HBW.out))) : w.heap.size ≤ gb249) : w0.heap.size ≤ gb249)); replace HBW := A0_ (bT HBW.out hb); clear hb hbox hg))
   go_ret
   exact ⟨_, rfl, (show IsS76 w0 _ gb249 (l0.take 2000) 0 from ⟨_, _, zK_ BK249, GE249.out, HR248.out⟩), zB_ HB, by repeat (first | (with_reducible first | exact HBW.out | apply bA | apply bN | apply bD | refine bS ?_ GW249.out) | exact HBW.out)⟩
  rw [if_neg c3] at H
  exact absurd H (by simp)
 rw [if_neg c2] at H
 have c2b0 : decide (2000 < (l0.length : Int)) = false := dF c2
 have c2b1 : decide (2000 < l0.length) = false := dF (by omega)
 clear c2; simp only [Option.some.injEq, Prod.mk.injEq] at H; obtain ⟨rfl, rfl⟩ := H
 go_enter Tryz.func21, Tryz.ntmps21
 go_wp2_with (first | ((with_reducible refine gD (N := 10) rfl ?_); refine zX (N := 10) (cs := #[.slice A0 l0.length c0, .int .i64 0]) (t := 76) ?_; intro gb250 hg w6 hbox hb; replace HB := zB HB hb; have BK250 := A0_ (hbox); have GW250 := A0_ ((by rw [hg]; exact (bZ (by repeat (first | (with_reducible first | exact HBW.out | apply bA | apply bN | apply bD) | exact HBW.out))) : w.heap.size ≤ gb250)); have GE250 := A0_ ((Nat.le_trans HW0.out (by rw [hg]; exact (bZ (by repeat (first | (with_reducible first | exact HBW.out | apply bA | apply bN | apply bD) | exact HBW.out))) : w.heap.size ≤ gb250) : w0.heap.size ≤ gb250)); replace HBW := A0_ (bT HBW.out hb); clear hb hbox hg))
 go_ret
 exact ⟨_, rfl, (show IsS76 w0 _ gb250 l0 0 from ⟨_, _, zK_ BK250, GE250.out, HR0.out⟩), zB_ HB, by repeat (first | (with_reducible first | exact HBW.out | apply bA | apply bN | apply bD | refine bS ?_ GW250.out) | exact HBW.out)⟩

end Go.Proofs.YtjebcgbmlbemcaaGreatDoor.PFnExecuteValue
