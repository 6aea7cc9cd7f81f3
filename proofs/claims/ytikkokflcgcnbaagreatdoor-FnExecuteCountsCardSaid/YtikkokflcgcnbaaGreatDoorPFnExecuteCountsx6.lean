-- Made by a program of this session (wip/tools) out of the loaded program; not trusted: Lean checks it.
import Derived.Test.YtikkokflcgcnbaaGreatDoorPFnExecuteCountsx0
import Derived.Test.YtikkokflcgcnbaaGreatDoorPFnExecuteCountsx4
-- packed
namespace Go.Proofs.YtikkokflcgcnbaaGreatDoor.PFnExecuteCounts
open Go.RowKit Go.Proofs.YtikkokflcgcnbaaGreatDoorW.PrintWords Go.Proofs.YtikkokflcgcnbaaGreatDoorW.PrintLast Go.Proofs.YtikkokflcgcnbaaGreatDoorW.PrintMore
attribute [local go_sem] max2_int min2_int max_two min_two max_three min_three max_four min_four   -- for this text's walks alone
set_option linter.unusedVariables false
set_option linter.unusedSimpArgs false

/-! ### laws_digits: function 22 -/
def laws_digits.f : Nat → Int → Option (ByteArray)
  | 0, _ => none
  | k + 1, a0 => if a0 < 10 then (some (strOfNums (([(wrap64 (48 + a0)) % 256] : List Int)))) else ((laws_digits.f k (wrap64 (Int.tdiv a0 10))).bind fun t210 => ((some (([(wrap64 (48 + (Int.tmod a0 10))) % 256] : List Int) : List Int)).bind fun y211 => (if t210.size + (strOfNums y211).size ≤ 9223372036854775807 then (some (t210 ++ (strOfNums y211))) else (none))))
def laws_digits.T3 : Bool × List (List Nat × List Nat) := (true, [([], []), ([0], [0]), ([1], [1]), ([], []), ([3], [3]), ([4], [4]), ([5], [5]), ([6], [6]), ([7], [7]), ([2, 8], [2, 8]), ([9, 2, 0, 1, 2, 3, 4, 5, 6, 7, 8, 9], [9])])
def laws_digits.B3 : List Nat := [0, 1, 3, 0, 8, 24, 56, 120, 248, 511, 1023]
theorem laws_digits.tab3 : rtab .any (opsOf Tryz.f22 3) = laws_digits.T3 := by kernel_rfl
theorem laws_digits.bits3 : waitsOk laws_digits.T3.2 laws_digits.B3 = true := by kernel_rfl
set_option maxHeartbeats 8000000 in
set_option maxRecDepth 100000 in
theorem laws_digits.calls (k : Nat) : ∀ (a0 : Int) (r : ByteArray) (w : World) (h : laws_digits.f k a0 = some r),
    Calls Tryz.prog 22 #[.int .i64 a0] w fun e w' => e = .returned (.string r) ∧ Below w.heap.size w w' := by
 induction k using Nat.strongRecOn with
 | _ k ih =>
 intro a0 r w h
 cases k with
 | zero => exact absurd h (by simp [laws_digits.f])
 | succ k =>
 simp only [laws_digits.f] at h
 have HB := A0_ (Below.refl w.heap.size w)
 have H : (if a0 < 10 then (some (strOfNums (([(wrap64 (48 + a0)) % 256] : List Int)))) else ((laws_digits.f k (wrap64 (Int.tdiv a0 10))).bind fun t210 => ((some (([(wrap64 (48 + (Int.tmod a0 10))) % 256] : List Int) : List Int)).bind fun y211 => (if t210.size + (strOfNums y211).size ≤ 9223372036854775807 then (some (t210 ++ (strOfNums y211))) else (none))))) = some r := h
 clear h
 by_cases c2 : a0 < 10
 ·rw [if_pos c2] at H
  have c2b0 := dT c2; clear c2
  obtain ⟨y207, hy207⟩ : ∃ y_ : List Int, y_ = (([(wrap64 (48 + a0)) % 256] : List Int)) := ⟨_, rfl⟩
  replace H : (some (strOfNums y207)) = some r := zH hy207 H
  have Ny207 := A0_ hy207; clear hy207; obtain rfl := sI H
  go_enter Tryz.func22, Tryz.ntmps22
  go_wp2_with (first | ((with_reducible refine gD (N := 8) rfl ?_); refine Kd.R_lit (Kd.int .u8) _ 5 ?hg (N := 8) ?hd (xs := ([(wrap64 (48 + a0)) % 256] : List Int)) (inner := [.int .u8 ((wrap64 (48 + a0)) % 256)]) (ok := fun _ => True) (okp := fun _ => True) ?hr ?hp (fun _ hk => hk) trivial (Below.refl _ _) (Nat.le_refl _) (by simp) ?_; (case hd => rfl); (case hg => rfl); (case hr => first | (go_simp; done) | (go_simp; rfl)); (case hp => exact (Reps.one (show Kd.M (Kd.int .u8) _ _ _ ((wrap64 (48 + a0)) % 256) [.int .u8 ((wrap64 (48 + a0)) % 256)] from rfl) (Reps.none _ _))); intro v208 w3 ho4 hb hg_ hnew_; clear hg_ hnew_; (first | rw [← Ny207.out] at ho4 | (simp only [Int.reduceToNat] at ho4; rw [← Ny207.out] at ho4)); have HO209 := A0_ (rL ho4 (bZ (zB_ HB))); replace HB := zB HB hb; clear hb ho4; have hcv5 := own_string (P := Tryz.prog) Tryz.underlying22 Tryz.underlying5 Tryz.underlying9 (Kd.own_of_R HO209.out)))
  go_ret
  exact ⟨by first | rfl | (simp [*] <;> rfl), zB_ HB⟩
 rw [if_neg c2] at H; have c2b0 := dF c2; clear c2; obtain ⟨t210, A6, H⟩ := zbind H
 obtain ⟨y211, hy211⟩ : ∃ y_ : List Int, y_ = (([(wrap64 (48 + (Int.tmod a0 10))) % 256] : List Int)) := ⟨_, rfl⟩
 replace H : (if t210.size + (strOfNums y211).size ≤ 9223372036854775807 then (some (t210 ++ (strOfNums y211))) else (none)) = some r := zH hy211 H
 have Ny211 := A0_ hy211; clear hy211
 by_cases c7 : t210.size + (strOfNums y211).size ≤ 9223372036854775807
 ·rw [if_pos c7] at H
  have c7b0 := eq_true c7; have c7b1 := dT c7
  try have c7b2 : (9223372036854775807 < t210.size + (strOfNums y211).size) = False := eq_false (Nat.not_lt.2 c7)
  obtain ⟨zs8, hzs8⟩ : ∃ j_ : ByteArray, (t210 ++ (strOfNums y211)) = j_ := ⟨_, rfl⟩
  replace H : (some zs8) = some r := by first | (rw [hzs8] at H; exact H) | (simp only [hzs8] at H ⊢; exact H) | exact H
  (try rw [hzs8] at A6)
  obtain rfl := sI H
  go_enter Tryz.func22, Tryz.ntmps22
  try go_wp2
  replace HB := A0_ (bD HB.out)
  refine start_ (n := 11) (S := fun w' => True) (ds := []) #[false, false, false, false, false, false, false, false, false, false, false] (by kernel_rfl) rfl rfl trivial (fun hHeld => ?_); refine with_tabW laws_digits.tab3 laws_digits.bits3 (fun HT_ HW_ => ?_)
  generalize w.drew = w9 at HB hHeld ⊢
  refine zP 0 (some 10) #[true,false,false,false,false,false,false,false,false,false,false] ?_
  refine zP 1 (some 11) #[true,true,false,false,false,false,false,false,false,false,false] ?_
  refine zP 3 (some 13) #[true,true,false,true,false,false,false,false,false,false,false] ?_
  refine zP 4 (some 14) #[true,true,false,true,true,false,false,false,false,false,false] ?_
  refine zP 5 (some 15) #[true,true,false,true,true,true,false,false,false,false,false] ?_
  refine zP 6 (some 16) #[true,true,false,true,true,true,true,false,false,false,false] ?_
  refine join_ (σ := Value) 2 #[true, true, true, true, true, true, true, true, true, false, false] (fun s_ => [(12, .string t210), (17, s_), (18, .string (strOfNums y211))]) (fun s_ w' => (Kd.R (Kd.int .u8) 5 w' w.heap.size (fun _ => True) s_ y211) ∧ (Below w.heap.size w w')) ?_ ?_
  rotate_left
  ·intro hCont
   refine two_ (i := 2) (j := 7) (Ni := some 12) (Nj := some 17) #[true, true, true, true, true, true, true, false, false, false, false] #[true, true, false, true, true, true, true, true, false, false, false] rfl rfl rfl rfl (two_of HT_.out (by kernel_rfl)) (by decide) (by decide) (fun K hK => ?_) (fun K hK => ?_)
   ·skip
    refine goes_ Tryz.func22 (by kernel_rfl) rfl #[.int .i64 (wrap64 (Int.tdiv a0 10))] (by rfl) rfl rfl (by (try simp only [List.map_toArray, List.map_cons, List.map_nil]); first | done | rfl | (simp only [List.length_drop, List.length_take]; rfl)) ?_
    with_reducible refine (ih k (by omega) (wrap64 (Int.tdiv a0 10)) t210 _ A6.out).mono ?_
    rintro e w10 ⟨rfl, hb⟩
    refine ⟨_, rfl, ?_⟩
    replace HB := zB HB hb; (try clear hb); (try clear hb2); (try clear hk); (try clear hi)
    refine hK.out _ _ trivial (fun hHeld => ?_)
    clear hK K
    refine norm_ (a' := ?_) ?_ ?_
    rotate_left
    ·show Act.put _ (some 12) _ = _
     simp only [Act.put, List.setIfInBounds_toArray, List.set_cons_zero, List.set_cons_succ, i64_w, i32_w]
     rfl
    refine one_ (i := 7) (N := some 17) #[true, true, true, true, true, true, true, true, false, false, false] rfl rfl (one_of HT_.out (by kernel_rfl)) (by decide) (fun K hK => ?_)
    refine Kd.R_lit_step (Kd.int .u8) _ 5 ?hg (N := 17) ?hd (xs := ([(wrap64 (48 + (Int.tmod a0 10))) % 256] : List Int)) (inner := [.int .u8 ((wrap64 (48 + (Int.tmod a0 10))) % 256)]) (ok := fun _ => True) (okp := fun _ => True) ?hr ?hp (fun _ hk => hk) trivial (Below.refl _ _) (Nat.le_refl _) (by simp) ?_; (case hd => rfl); (case hg => rfl); (case hr => first | (go_simp; done) | (go_simp; rfl)); (case hp => exact (Reps.one (show Kd.M (Kd.int .u8) _ _ _ ((wrap64 (48 + (Int.tmod a0 10))) % 256) [.int .u8 ((wrap64 (48 + (Int.tmod a0 10))) % 256)] from rfl) (Reps.none _ _)))
    intro v212 w11 ho12 hb hg_ hnew_
    clear hg_ hnew_
    (first | rw [← Ny211.out] at ho12 | (simp only [Int.reduceToNat] at ho12; rw [← Ny211.out] at ho12))
    have HO213 := A0_ (rL ho12 (bZ (zB_ HB)))
    replace HB := zB HB hb; clear hb ho12
    refine hK.out _ _ trivial (fun hHeld => ?_)
    clear hK K
    refine norm_ (a' := ?_) ?_ ?_
    rotate_left
    ·show Act.put _ (some 17) _ = _
     simp only [Act.put, List.setIfInBounds_toArray, List.set_cons_zero, List.set_cons_succ, i64_w, i32_w]
     rfl
    refine one_ (i := 8) (N := some 18) #[true, true, true, true, true, true, true, true, true, false, false] rfl rfl (one_of HT_.out (by kernel_rfl)) (by decide) (fun K hK => ?_)
    have hcv13 := own_string (P := Tryz.prog) Tryz.underlying22 Tryz.underlying5 Tryz.underlying9 (Kd.own_of_R HO213.out)
    refine value_ (w1 := ?_) (v := ?_) (by rfl) rfl ?_ ?_
    rotate_left 2
    ·go_simp
     constructor
     ·rfl
     rfl
    clear hcv13
    refine hK.out _ _ trivial (fun hHeld => ?_)
    clear hK K
    refine norm_ (a' := ?_) ?_ ?_
    rotate_left
    ·show Act.put _ (some 18) _ = _
     simp only [Act.put, List.setIfInBounds_toArray, List.set_cons_zero, List.set_cons_succ, i64_w, i32_w]
     rfl
    exact norm_ (by simp only [putAll, Act.put, List.setIfInBounds_toArray, List.set_cons_zero, List.set_cons_succ]) (hCont (v212) _ ⟨(zR_ HO213), (zB_ HB)⟩)
   skip
   refine Kd.R_lit_step (Kd.int .u8) _ 5 ?hg (N := 17) ?hd (xs := ([(wrap64 (48 + (Int.tmod a0 10))) % 256] : List Int)) (inner := [.int .u8 ((wrap64 (48 + (Int.tmod a0 10))) % 256)]) (ok := fun _ => True) (okp := fun _ => True) ?hr ?hp (fun _ hk => hk) trivial (Below.refl _ _) (Nat.le_refl _) (by simp) ?_; (case hd => rfl); (case hg => rfl); (case hr => first | (go_simp; done) | (go_simp; rfl)); (case hp => exact (Reps.one (show Kd.M (Kd.int .u8) _ _ _ ((wrap64 (48 + (Int.tmod a0 10))) % 256) [.int .u8 ((wrap64 (48 + (Int.tmod a0 10))) % 256)] from rfl) (Reps.none _ _)))
   intro v212 w10 ho11 hb hg_ hnew_
   clear hg_ hnew_
   (first | rw [← Ny211.out] at ho11 | (simp only [Int.reduceToNat] at ho11; rw [← Ny211.out] at ho11))
   have HO213 := A0_ (rL ho11 (bZ (zB_ HB)))
   replace HB := zB HB hb; clear hb ho11
   refine hK.out _ _ trivial (fun hHeld => ?_)
   clear hK K
   refine norm_ (a' := ?_) ?_ ?_
   rotate_left
   ·show Act.put _ (some 17) _ = _
    simp only [Act.put, List.setIfInBounds_toArray, List.set_cons_zero, List.set_cons_succ, i64_w, i32_w]
    rfl
   refine two_ (i := 2) (j := 8) (Ni := some 12) (Nj := some 18) #[true, true, true, true, true, true, true, true, false, false, false] #[true, true, false, true, true, true, true, true, true, false, false] rfl rfl rfl rfl (two_of HT_.out (by kernel_rfl)) (by decide) (by decide) (fun K hK => ?_) (fun K hK => ?_)
   ·skip
    refine goes_ Tryz.func22 (by kernel_rfl) rfl #[.int .i64 (wrap64 (Int.tdiv a0 10))] (by rfl) rfl rfl (by (try simp only [List.map_toArray, List.map_cons, List.map_nil]); first | done | rfl | (simp only [List.length_drop, List.length_take]; rfl)) ?_
    with_reducible refine (ih k (by omega) (wrap64 (Int.tdiv a0 10)) t210 _ A6.out).mono ?_
    rintro e w12 ⟨rfl, hb⟩
    refine ⟨_, rfl, ?_⟩
    replace HO213 := zR HO213 hb; replace HB := zB HB hb; (try clear hb); (try clear hb2); (try clear hk); (try clear hi)
    refine hK.out _ _ trivial (fun hHeld => ?_)
    clear hK K
    refine norm_ (a' := ?_) ?_ ?_
    rotate_left
    ·show Act.put _ (some 12) _ = _
     simp only [Act.put, List.setIfInBounds_toArray, List.set_cons_zero, List.set_cons_succ, i64_w, i32_w]
     rfl
    refine one_ (i := 8) (N := some 18) #[true, true, true, true, true, true, true, true, true, false, false] rfl rfl (one_of HT_.out (by kernel_rfl)) (by decide) (fun K hK => ?_)
    have hcv13 := own_string (P := Tryz.prog) Tryz.underlying22 Tryz.underlying5 Tryz.underlying9 (Kd.own_of_R HO213.out)
    refine value_ (w1 := ?_) (v := ?_) (by rfl) rfl ?_ ?_
    rotate_left 2
    ·go_simp
     constructor
     ·rfl
     rfl
    clear hcv13
    refine hK.out _ _ trivial (fun hHeld => ?_)
    clear hK K
    refine norm_ (a' := ?_) ?_ ?_
    rotate_left
    ·show Act.put _ (some 18) _ = _
     simp only [Act.put, List.setIfInBounds_toArray, List.set_cons_zero, List.set_cons_succ, i64_w, i32_w]
     rfl
    exact norm_ (by simp only [putAll, Act.put, List.setIfInBounds_toArray, List.set_cons_zero, List.set_cons_succ]) (hCont (v212) _ ⟨(zR_ HO213), (zB_ HB)⟩)
   skip
   have hcv12 := own_string (P := Tryz.prog) Tryz.underlying22 Tryz.underlying5 Tryz.underlying9 (Kd.own_of_R HO213.out)
   refine value_ (w1 := ?_) (v := ?_) (by rfl) rfl ?_ ?_
   rotate_left 2
   ·go_simp
    constructor
    ·rfl
    rfl
   clear hcv12
   refine hK.out _ _ trivial (fun hHeld => ?_)
   clear hK K
   refine norm_ (a' := ?_) ?_ ?_
   rotate_left
   ·show Act.put _ (some 18) _ = _
    simp only [Act.put, List.setIfInBounds_toArray, List.set_cons_zero, List.set_cons_succ, i64_w, i32_w]
    rfl
   refine one_ (i := 2) (N := some 12) #[true, true, true, true, true, true, true, true, true, false, false] rfl rfl (one_of HT_.out (by kernel_rfl)) (by decide) (fun K hK => ?_)
   refine goes_ Tryz.func22 (by kernel_rfl) rfl #[.int .i64 (wrap64 (Int.tdiv a0 10))] (by rfl) rfl rfl (by (try simp only [List.map_toArray, List.map_cons, List.map_nil]); first | done | rfl | (simp only [List.length_drop, List.length_take]; rfl)) ?_
   with_reducible refine (ih k (by omega) (wrap64 (Int.tdiv a0 10)) t210 _ A6.out).mono ?_
   rintro e w13 ⟨rfl, hb⟩
   refine ⟨_, rfl, ?_⟩
   replace HO213 := zR HO213 hb; replace HB := zB HB hb; (try clear hb); (try clear hb2); (try clear hk); (try clear hi)
   refine hK.out _ _ trivial (fun hHeld => ?_)
   clear hK K
   refine norm_ (a' := ?_) ?_ ?_
   rotate_left
   ·show Act.put _ (some 12) _ = _
    simp only [Act.put, List.setIfInBounds_toArray, List.set_cons_zero, List.set_cons_succ, i64_w, i32_w]
    rfl
   exact norm_ (by simp only [putAll, Act.put, List.setIfInBounds_toArray, List.set_cons_zero, List.set_cons_succ]) (hCont (v212) _ ⟨(zR_ HO213), (zB_ HB)⟩)
  rintro v212 w14 ⟨h0_, h1_⟩
  have HO213 : Aside0 (Kd.R (Kd.int .u8) 5 w14 w.heap.size (fun _ => True) v212 y211) := ⟨h0_⟩
  replace HB : Aside0 (Below w.heap.size w w14) := ⟨h1_⟩
  clear h0_ h1_; have hHeld := trivial
  refine norm_ (a' := ?_) ?_ ?_
  rotate_left
  ·simp only [putAll, Act.put, List.setIfInBounds_toArray, List.set_cons_zero, List.set_cons_succ]
   rfl
  refine zP 9 (some 19) #[true,true,true,true,true,true,true,true,true,true,false] ?_
  refine zP 10 (some 2) #[true,true,true,true,true,true,true,true,true,true,true] ?_
  refine done_ (done_of HT_.out (by kernel_rfl)) ?_
  try go_wp2
  go_ret
  exact ⟨by first | rfl | (simp [*] <;> rfl), zB_ HB⟩
 rw [if_neg c7] at H
 exact absurd H (by simp)

/-! ### laws_mapLine: function 12 -/
def laws_mapLine.f (k : Nat) (l0_0 : List Int) (l0_1 : List Int) : Option (ByteArray) := (laws_digits.f k (l0_0.length : Int)).bind fun t215 => (if 4 + t215.size ≤ 9223372036854775807 then (if ((⟨#[109, 97, 112, 32]⟩ : ByteArray) ++ t215).size + 1 ≤ 9223372036854775807 then ((impl_PermText.f k l0_0).bind fun t216 => (if (((⟨#[109, 97, 112, 32]⟩ : ByteArray) ++ t215) ++ (⟨#[32]⟩ : ByteArray)).size + t216.size ≤ 9223372036854775807 then (if ((((⟨#[109, 97, 112, 32]⟩ : ByteArray) ++ t215) ++ (⟨#[32]⟩ : ByteArray)) ++ t216).size + 1 ≤ 9223372036854775807 then ((impl_PermText.f k l0_1).bind fun t217 => (if (((((⟨#[109, 97, 112, 32]⟩ : ByteArray) ++ t215) ++ (⟨#[32]⟩ : ByteArray)) ++ t216) ++ (⟨#[32]⟩ : ByteArray)).size + t217.size ≤ 9223372036854775807 then (if ((((((⟨#[109, 97, 112, 32]⟩ : ByteArray) ++ t215) ++ (⟨#[32]⟩ : ByteArray)) ++ t216) ++ (⟨#[32]⟩ : ByteArray)) ++ t217).size + 1 ≤ 9223372036854775807 then (some (((((((⟨#[109, 97, 112, 32]⟩ : ByteArray) ++ t215) ++ (⟨#[32]⟩ : ByteArray)) ++ t216) ++ (⟨#[32]⟩ : ByteArray)) ++ t217) ++ (⟨#[10]⟩ : ByteArray))) else (none)) else (none))) else (none)) else (none))) else (none)) else (none))
def laws_mapLine.T1 : Bool × List (List Nat × List Nat) := (true, [([], []), ([0], [0]), ([1], [1]), ([2], [2]), ([3], [3]), ([4], [4]), ([], []), ([6], [6]), ([7, 3], [7]), ([5, 8], [5, 8]), ([9], [9]), ([], []), ([11], [11]), ([12, 8], [12]), ([10, 13], [10, 13]), ([14], [14]), ([15, 13, 0, 1, 2, 3, 4, 5, 6, 7, 8, 9, 10, 11, 12, 13, 14, 15], [15])])
def laws_mapLine.B1 : List Nat := [0, 1, 3, 7, 15, 31, 0, 64, 207, 511, 1023, 0, 2048, 6607, 16383, 32767, 65535]
theorem laws_mapLine.tab1 : rtab .any (opsOf Tryz.f12 1) = laws_mapLine.T1 := by kernel_rfl
theorem laws_mapLine.bits1 : waitsOk laws_mapLine.T1.2 laws_mapLine.B1 = true := by kernel_rfl
set_option maxHeartbeats 8000000 in
set_option maxRecDepth 100000 in
theorem laws_mapLine.calls (k : Nat) (A0_0 : Option Addr) (c0_0 : Nat) (l0_0 : List Int) (A0_1 : Option Addr) (c0_1 : Nat) (l0_1 : List Int) (r : ByteArray) (w : World) (hr0_0 : Kd.C (Kd.int .i64) w A0_0 l0_0.length l0_0) (hc0_0 : l0_0.length ≤ c0_0) (hr0_1 : Kd.C (Kd.int .i64) w A0_1 l0_1.length l0_1) (hc0_1 : l0_1.length ≤ c0_1) (h : laws_mapLine.f k l0_0 l0_1 = some r) :
    Calls Tryz.prog 12 #[.agg #[.slice A0_0 l0_0.length c0_0, .slice A0_1 l0_1.length c0_1]] w fun e w' => e = .returned (.string r) ∧ Below w.heap.size w w' := by
 have hu25 := Tryz.underlying25; have HR0_0 := A0_ hr0_0; have HC0_0 := A0_ hc0_0; clear hr0_0 hc0_0; have HR0_1 := A0_ hr0_1; have HC0_1 := A0_ hc0_1; clear hr0_1 hc0_1
 have HB := A0_ (Below.refl w.heap.size w)
 have H : ((laws_digits.f k (l0_0.length : Int)).bind fun t215 => (if 4 + t215.size ≤ 9223372036854775807 then (if ((⟨#[109, 97, 112, 32]⟩ : ByteArray) ++ t215).size + 1 ≤ 9223372036854775807 then ((impl_PermText.f k l0_0).bind fun t216 => (if (((⟨#[109, 97, 112, 32]⟩ : ByteArray) ++ t215) ++ (⟨#[32]⟩ : ByteArray)).size + t216.size ≤ 9223372036854775807 then (if ((((⟨#[109, 97, 112, 32]⟩ : ByteArray) ++ t215) ++ (⟨#[32]⟩ : ByteArray)) ++ t216).size + 1 ≤ 9223372036854775807 then ((impl_PermText.f k l0_1).bind fun t217 => (if (((((⟨#[109, 97, 112, 32]⟩ : ByteArray) ++ t215) ++ (⟨#[32]⟩ : ByteArray)) ++ t216) ++ (⟨#[32]⟩ : ByteArray)).size + t217.size ≤ 9223372036854775807 then (if ((((((⟨#[109, 97, 112, 32]⟩ : ByteArray) ++ t215) ++ (⟨#[32]⟩ : ByteArray)) ++ t216) ++ (⟨#[32]⟩ : ByteArray)) ++ t217).size + 1 ≤ 9223372036854775807 then (some (((((((⟨#[109, 97, 112, 32]⟩ : ByteArray) ++ t215) ++ (⟨#[32]⟩ : ByteArray)) ++ t216) ++ (⟨#[32]⟩ : ByteArray)) ++ t217) ++ (⟨#[10]⟩ : ByteArray))) else (none)) else (none))) else (none)) else (none))) else (none)) else (none))) = some r := h
 clear h; obtain ⟨t215, A2, H⟩ := zbind H
 by_cases c3 : 4 + t215.size ≤ 9223372036854775807
 ·rw [if_pos c3] at H
  have c3b0 := eq_true c3; have c3b1 := dT c3
  try have c3b2 : (9223372036854775807 < 4 + t215.size) = False := eq_false (Nat.not_lt.2 c3)
  obtain ⟨zs4, hzs4⟩ : ∃ j_ : ByteArray, ((⟨#[109, 97, 112, 32]⟩ : ByteArray) ++ t215) = j_ := ⟨_, rfl⟩
  replace H : (if zs4.size + 1 ≤ 9223372036854775807 then ((impl_PermText.f k l0_0).bind fun t216 => (if (zs4 ++ (⟨#[32]⟩ : ByteArray)).size + t216.size ≤ 9223372036854775807 then (if ((zs4 ++ (⟨#[32]⟩ : ByteArray)) ++ t216).size + 1 ≤ 9223372036854775807 then ((impl_PermText.f k l0_1).bind fun t217 => (if (((zs4 ++ (⟨#[32]⟩ : ByteArray)) ++ t216) ++ (⟨#[32]⟩ : ByteArray)).size + t217.size ≤ 9223372036854775807 then (if ((((zs4 ++ (⟨#[32]⟩ : ByteArray)) ++ t216) ++ (⟨#[32]⟩ : ByteArray)) ++ t217).size + 1 ≤ 9223372036854775807 then (some (((((zs4 ++ (⟨#[32]⟩ : ByteArray)) ++ t216) ++ (⟨#[32]⟩ : ByteArray)) ++ t217) ++ (⟨#[10]⟩ : ByteArray))) else (none)) else (none))) else (none)) else (none))) else (none)) = some r := by first | (rw [hzs4] at H; exact H) | (simp only [hzs4] at H ⊢; exact H) | exact H
  (try rw [hzs4] at A2)
  by_cases c5 : zs4.size + 1 ≤ 9223372036854775807
  ·rw [if_pos c5] at H
   have c5b0 := eq_true c5; have c5b1 := dT c5
   try have c5b2 : (9223372036854775807 < zs4.size + 1) = False := eq_false (Nat.not_lt.2 c5)
   obtain ⟨zs6, hzs6⟩ : ∃ j_ : ByteArray, (zs4 ++ (⟨#[32]⟩ : ByteArray)) = j_ := ⟨_, rfl⟩
   replace H : ((impl_PermText.f k l0_0).bind fun t216 => (if zs6.size + t216.size ≤ 9223372036854775807 then (if (zs6 ++ t216).size + 1 ≤ 9223372036854775807 then ((impl_PermText.f k l0_1).bind fun t217 => (if ((zs6 ++ t216) ++ (⟨#[32]⟩ : ByteArray)).size + t217.size ≤ 9223372036854775807 then (if (((zs6 ++ t216) ++ (⟨#[32]⟩ : ByteArray)) ++ t217).size + 1 ≤ 9223372036854775807 then (some ((((zs6 ++ t216) ++ (⟨#[32]⟩ : ByteArray)) ++ t217) ++ (⟨#[10]⟩ : ByteArray))) else (none)) else (none))) else (none)) else (none))) = some r := by first | (rw [hzs6] at H; exact H) | (simp only [hzs6] at H ⊢; exact H) | exact H
   (try rw [hzs6] at A2)
   obtain ⟨t216, A7, H⟩ := zbind H
   by_cases c8 : zs6.size + t216.size ≤ 9223372036854775807
   ·rw [if_pos c8] at H
    have c8b0 := eq_true c8; have c8b1 := dT c8
    try have c8b2 : (9223372036854775807 < zs6.size + t216.size) = False := eq_false (Nat.not_lt.2 c8)
    obtain ⟨zs9, hzs9⟩ : ∃ j_ : ByteArray, (zs6 ++ t216) = j_ := ⟨_, rfl⟩
    replace H : (if zs9.size + 1 ≤ 9223372036854775807 then ((impl_PermText.f k l0_1).bind fun t217 => (if (zs9 ++ (⟨#[32]⟩ : ByteArray)).size + t217.size ≤ 9223372036854775807 then (if ((zs9 ++ (⟨#[32]⟩ : ByteArray)) ++ t217).size + 1 ≤ 9223372036854775807 then (some (((zs9 ++ (⟨#[32]⟩ : ByteArray)) ++ t217) ++ (⟨#[10]⟩ : ByteArray))) else (none)) else (none))) else (none)) = some r := by first | (rw [hzs9] at H; exact H) | (simp only [hzs9] at H ⊢; exact H) | exact H
    (try rw [hzs9] at A2)
    (try rw [hzs9] at A7)
    by_cases c10 : zs9.size + 1 ≤ 9223372036854775807
    ·rw [if_pos c10] at H
     have c10b0 := eq_true c10; have c10b1 := dT c10
     try have c10b2 : (9223372036854775807 < zs9.size + 1) = False := eq_false (Nat.not_lt.2 c10)
     obtain ⟨zs11, hzs11⟩ : ∃ j_ : ByteArray, (zs9 ++ (⟨#[32]⟩ : ByteArray)) = j_ := ⟨_, rfl⟩
     replace H : ((impl_PermText.f k l0_1).bind fun t217 => (if zs11.size + t217.size ≤ 9223372036854775807 then (if (zs11 ++ t217).size + 1 ≤ 9223372036854775807 then (some ((zs11 ++ t217) ++ (⟨#[10]⟩ : ByteArray))) else (none)) else (none))) = some r := by first | (rw [hzs11] at H; exact H) | (simp only [hzs11] at H ⊢; exact H) | exact H
     (try rw [hzs11] at A2)
     (try rw [hzs11] at A7)
     obtain ⟨t217, A12, H⟩ := zbind H
     by_cases c13 : zs11.size + t217.size ≤ 9223372036854775807
     ·rw [if_pos c13] at H
      have c13b0 := eq_true c13; have c13b1 := dT c13
      try have c13b2 : (9223372036854775807 < zs11.size + t217.size) = False := eq_false (Nat.not_lt.2 c13)
      obtain ⟨zs14, hzs14⟩ : ∃ j_ : ByteArray, (zs11 ++ t217) = j_ := ⟨_, rfl⟩
      replace H : (if zs14.size + 1 ≤ 9223372036854775807 then (some (zs14 ++ (⟨#[10]⟩ : ByteArray))) else (none)) = some r := by first | (rw [hzs14] at H; exact H) | (simp only [hzs14] at H ⊢; exact H) | exact H
      (try rw [hzs14] at A2)
      (try rw [hzs14] at A7)
      (try rw [hzs14] at A12)
      by_cases c15 : zs14.size + 1 ≤ 9223372036854775807
      ·rw [if_pos c15] at H
       have c15b0 := eq_true c15; have c15b1 := dT c15
       try have c15b2 : (9223372036854775807 < zs14.size + 1) = False := eq_false (Nat.not_lt.2 c15)
       obtain ⟨zs16, hzs16⟩ : ∃ j_ : ByteArray, (zs14 ++ (⟨#[10]⟩ : ByteArray)) = j_ := ⟨_, rfl⟩
       replace H : (some zs16) = some r := by first | (rw [hzs16] at H; exact H) | (simp only [hzs16] at H ⊢; exact H) | exact H
       (try rw [hzs16] at A2)
       (try rw [hzs16] at A7)
       (try rw [hzs16] at A12)
       obtain rfl := sI H
       go_enter Tryz.func12, Tryz.ntmps12
       try go_wp2_with (first | ((with_reducible refine gD (N := 1) rfl ?_); refine zX (N := 1) (cs := #[.slice A0_0 l0_0.length c0_0, .slice A0_1 l0_1.length c0_1]) (t := 25) ?_; intro gb214 hg w17 hbox hb; have BK214 := A0_ (hbox); have GW214 := zG hg HB; have GE214 := zG hg HB; replace HB := zB HB hb; clear hb hbox hg))
       replace BK214 := A0_ (kD BK214.out)
       replace HB := A0_ (bD HB.out)
       refine start_ (n := 17) (S := fun w' => w'.cell? ⟨gb214, 0, none⟩ = some (.slice A0_0 l0_0.length c0_0) ∧ w'.cell? ⟨gb214, 1, none⟩ = some (.slice A0_1 l0_1.length c0_1)) (ds := []) #[false, false, false, false, false, false, false, false, false, false, false, false, false, false, false, false, false] (by kernel_rfl) rfl rfl ⟨(kC BK214.out 0).trans rfl, (kC BK214.out 1).trans rfl⟩ (fun hHeld => ?_); refine with_tabW laws_mapLine.tab1 laws_mapLine.bits1 (fun HT_ HW_ => ?_)
       generalize w17.drew = w18 at BK214 HB hHeld ⊢
       refine zP 0 (some 3) #[true,false,false,false,false,false,false,false,false,false,false,false,false,false,false,false,false] ?_
       refine zP 6 (some 9) #[true,false,false,false,false,false,true,false,false,false,false,false,false,false,false,false,false] ?_
       refine zP 11 (some 14) #[true,false,false,false,false,false,true,false,false,false,false,true,false,false,false,false,false] ?_
       refine take_ (i := 1) (N := some 4) (v := ?_) (a' := ?_) #[true, true, false, false, false, false, true, false, false, false, false, true, false, false, false, false, false] rfl rfl (take_ofW HT_.out HW_.out (by kernel_rfl)) (fun _ _ _ h => h) (Or.inl ⟨by rfl, ?_⟩) hHeld ?_ ?_
       rotate_left
       ·rintro w' ⟨s0, s1⟩
        go_simp
        with_reducible rfl
       rotate_left
       ·simp only [Act.put, List.setIfInBounds_toArray, List.set_cons_zero, List.set_cons_succ, i64_w, i32_w]
        rfl
       refine zP 2 (some 5) #[true,true,true,false,false,false,true,false,false,false,false,true,false,false,false,false,false] ?_
       refine take_ (i := 7) (N := some 10) (v := ?_) (a' := ?_) #[true, true, true, false, false, false, true, true, false, false, false, true, false, false, false, false, false] rfl rfl (take_ofW HT_.out HW_.out (by kernel_rfl)) (fun _ _ _ h => h) (Or.inl ⟨by rfl, ?_⟩) hHeld ?_ ?_
       rotate_left
       ·rintro w' ⟨s0, s1⟩
        go_simp
        with_reducible rfl
       rotate_left
       ·simp only [Act.put, List.setIfInBounds_toArray, List.set_cons_zero, List.set_cons_succ, i64_w, i32_w]
        rfl
       refine take_ (i := 12) (N := some 15) (v := ?_) (a' := ?_) #[true, true, true, false, false, false, true, true, false, false, false, true, true, false, false, false, false] rfl rfl (take_ofW HT_.out HW_.out (by kernel_rfl)) (fun _ _ _ h => h) (Or.inl ⟨by rfl, ?_⟩) hHeld ?_ ?_
       rotate_left
       ·rintro w' ⟨s0, s1⟩
        go_simp
        with_reducible rfl
       rotate_left
       ·simp only [Act.put, List.setIfInBounds_toArray, List.set_cons_zero, List.set_cons_succ, i64_w, i32_w]
        rfl
       refine one_ (i := 3) (N := some 6) #[true, true, true, true, false, false, true, true, false, false, false, true, true, false, false, false, false] rfl rfl (one_of HT_.out (by kernel_rfl)) (by decide) (fun K hK => ?_)
       refine goes_ Tryz.func22 (by kernel_rfl) rfl #[.int .i64 (l0_0.length : Int)] (by rfl) rfl rfl (by (try simp only [List.map_toArray, List.map_cons, List.map_nil]); first | done | rfl | (simp only [List.length_drop, List.length_take]; rfl)) ?_
       with_reducible refine (laws_digits.calls k (l0_0.length : Int) t215 _ A2.out).mono ?_
       rintro e w19 ⟨rfl, hb⟩
       refine ⟨_, rfl, ?_⟩
       replace BK214 := zK BK214 hb; replace HB := zB HB hb; (try clear hb); (try clear hb2); (try clear hk); (try clear hi)
       refine hK.out _ _ ⟨(kC BK214.out 0).trans rfl, (kC BK214.out 1).trans rfl⟩ (fun hHeld => ?_)
       clear hK K
       refine norm_ (a' := ?_) ?_ ?_
       rotate_left
       ·show Act.put _ (some 6) _ = _
        simp only [Act.put, List.setIfInBounds_toArray, List.set_cons_zero, List.set_cons_succ, i64_w, i32_w]
        rfl
       refine zP 4 (some 7) #[true,true,true,true,true,false,true,true,false,false,false,true,true,false,false,false,false] ?_
       refine zP 5 (some 8) #[true,true,true,true,true,true,true,true,false,false,false,true,true,false,false,false,false] ?_
       refine one_ (i := 8) (N := some 11) #[true, true, true, true, true, true, true, true, true, false, false, true, true, false, false, false, false] rfl rfl (one_of HT_.out (by kernel_rfl)) (by decide) (fun K hK => ?_)
       refine goes_ Tryz.func40 (by kernel_rfl) rfl #[.slice A0_0 l0_0.length c0_0] (by rfl) rfl rfl (by (try simp only [List.map_toArray, List.map_cons, List.map_nil]); first | done | rfl | (simp only [List.length_drop, List.length_take]; rfl)) ?_
       with_reducible refine (impl_PermText.calls k _ _ l0_0 t216 _ ?side1 ?side2 A7.out).mono ?_
       (case side1 => exact zC HR0_0 HB)
       (case side2 => exact HC0_0.out)
       rintro e w20 ⟨rfl, hb⟩
       refine ⟨_, rfl, ?_⟩
       replace BK214 := zK BK214 hb; replace HB := zB HB hb; (try clear hb); (try clear hb2); (try clear hk); (try clear hi)
       refine hK.out _ _ ⟨(kC BK214.out 0).trans rfl, (kC BK214.out 1).trans rfl⟩ (fun hHeld => ?_)
       clear hK K
       refine norm_ (a' := ?_) ?_ ?_
       rotate_left
       ·show Act.put _ (some 11) _ = _
        simp only [Act.put, List.setIfInBounds_toArray, List.set_cons_zero, List.set_cons_succ, i64_w, i32_w]
        rfl
       refine zP 9 (some 12) #[true,true,true,true,true,true,true,true,true,true,false,true,true,false,false,false,false] ?_
       refine zP 10 (some 13) #[true,true,true,true,true,true,true,true,true,true,true,true,true,false,false,false,false] ?_
       refine one_ (i := 13) (N := some 16) #[true, true, true, true, true, true, true, true, true, true, true, true, true, true, false, false, false] rfl rfl (one_of HT_.out (by kernel_rfl)) (by decide) (fun K hK => ?_)
       refine goes_ Tryz.func40 (by kernel_rfl) rfl #[.slice A0_1 l0_1.length c0_1] (by rfl) rfl rfl (by (try simp only [List.map_toArray, List.map_cons, List.map_nil]); first | done | rfl | (simp only [List.length_drop, List.length_take]; rfl)) ?_
       with_reducible refine (impl_PermText.calls k _ _ l0_1 t217 _ ?side1 ?side2 A12.out).mono ?_
       (case side1 => exact zC HR0_1 HB)
       (case side2 => exact HC0_1.out)
       rintro e w21 ⟨rfl, hb⟩
       refine ⟨_, rfl, ?_⟩
       replace BK214 := zK BK214 hb; replace HB := zB HB hb; (try clear hb); (try clear hb2); (try clear hk); (try clear hi)
       refine hK.out _ _ ⟨(kC BK214.out 0).trans rfl, (kC BK214.out 1).trans rfl⟩ (fun hHeld => ?_)
       clear hK K
       refine norm_ (a' := ?_) ?_ ?_
       rotate_left
       ·show Act.put _ (some 16) _ = _
        simp only [Act.put, List.setIfInBounds_toArray, List.set_cons_zero, List.set_cons_succ, i64_w, i32_w]
        rfl
       refine zP 14 (some 17) #[true,true,true,true,true,true,true,true,true,true,true,true,true,true,true,false,false] ?_
       refine zP 15 (some 18) #[true,true,true,true,true,true,true,true,true,true,true,true,true,true,true,true,false] ?_
       refine zP 16 (some 2) #[true,true,true,true,true,true,true,true,true,true,true,true,true,true,true,true,true] ?_
       refine done_ (done_of HT_.out (by kernel_rfl)) ?_
       try go_wp2
       go_ret
       exact ⟨by first | rfl | (simp [*] <;> rfl), zB_ HB⟩
      rw [if_neg c15] at H
      exact absurd H (by simp)
     rw [if_neg c13] at H
     exact absurd H (by simp)
    rw [if_neg c10] at H
    exact absurd H (by simp)
   rw [if_neg c8] at H
   exact absurd H (by simp)
  rw [if_neg c5] at H
  exact absurd H (by simp)
 rw [if_neg c3] at H
 exact absurd H (by simp)

/-! ### laws_endLine: function 14 -/
def laws_endLine.f (k : Nat) (a0 : Int) : Option (ByteArray) := (laws_digits.f k a0).bind fun t218 => (if 6 + t218.size ≤ 9223372036854775807 then (if ((⟨#[100, 97, 114, 116, 115, 32]⟩ : ByteArray) ++ t218).size + 1 ≤ 9223372036854775807 then (some (((⟨#[100, 97, 114, 116, 115, 32]⟩ : ByteArray) ++ t218) ++ (⟨#[10]⟩ : ByteArray))) else (none)) else (none))
set_option maxHeartbeats 8000000 in
set_option maxRecDepth 100000 in
theorem laws_endLine.calls (k : Nat) (a0 : Int) (r : ByteArray) (w : World) (h : laws_endLine.f k a0 = some r) :
    Calls Tryz.prog 14 #[.int .i64 a0] w fun e w' => e = .returned (.string r) ∧ Below w.heap.size w w' := by
 have HB := A0_ (Below.refl w.heap.size w)
 have H : ((laws_digits.f k a0).bind fun t218 => (if 6 + t218.size ≤ 9223372036854775807 then (if ((⟨#[100, 97, 114, 116, 115, 32]⟩ : ByteArray) ++ t218).size + 1 ≤ 9223372036854775807 then (some (((⟨#[100, 97, 114, 116, 115, 32]⟩ : ByteArray) ++ t218) ++ (⟨#[10]⟩ : ByteArray))) else (none)) else (none))) = some r := h
 clear h; obtain ⟨t218, A2, H⟩ := zbind H
 by_cases c3 : 6 + t218.size ≤ 9223372036854775807
 ·rw [if_pos c3] at H
  have c3b0 := eq_true c3; have c3b1 := dT c3
  try have c3b2 : (9223372036854775807 < 6 + t218.size) = False := eq_false (Nat.not_lt.2 c3)
  obtain ⟨zs4, hzs4⟩ : ∃ j_ : ByteArray, ((⟨#[100, 97, 114, 116, 115, 32]⟩ : ByteArray) ++ t218) = j_ := ⟨_, rfl⟩
  replace H : (if zs4.size + 1 ≤ 9223372036854775807 then (some (zs4 ++ (⟨#[10]⟩ : ByteArray))) else (none)) = some r := by first | (rw [hzs4] at H; exact H) | (simp only [hzs4] at H ⊢; exact H) | exact H
  (try rw [hzs4] at A2)
  by_cases c5 : zs4.size + 1 ≤ 9223372036854775807
  ·rw [if_pos c5] at H
   have c5b0 := eq_true c5; have c5b1 := dT c5
   try have c5b2 : (9223372036854775807 < zs4.size + 1) = False := eq_false (Nat.not_lt.2 c5)
   obtain ⟨zs6, hzs6⟩ : ∃ j_ : ByteArray, (zs4 ++ (⟨#[10]⟩ : ByteArray)) = j_ := ⟨_, rfl⟩
   replace H : (some zs6) = some r := by first | (rw [hzs6] at H; exact H) | (simp only [hzs6] at H ⊢; exact H) | exact H
   (try rw [hzs6] at A2)
   obtain rfl := sI H
   go_enter Tryz.func14, Tryz.ntmps14
   go_wp2_with (first | ((with_reducible refine gC (f := 22) rfl ?_); refine zJ (some 4) Tryz.func22 #[.int .i64 a0] ?_; (with_reducible refine (laws_digits.calls k a0 t218 _ A2.out).mono ?_); rintro e w7 ⟨rfl, hb⟩; refine ⟨_, rfl, ?_⟩; replace HB := zB HB hb; (try clear hb)))
   go_ret
   exact ⟨by first | rfl | (simp [*] <;> rfl), zB_ HB⟩
  rw [if_neg c5] at H
  exact absurd H (by simp)
 rw [if_neg c3] at H
 exact absurd H (by simp)

/-! ### spec_l1Same: function 97 -/
def spec_l1Same.l0 : Nat → Int → List Int → Int → Option (List Int)
  | 0, _, _, _ => none
  | k + 1, x0, x3, x4 => if x4 < x0 then (if x3.length < 17592186044416 then (spec_l1Same.l0 k x0 (x3 ++ [x4]) (wrap64 (x4 + 1))) else (none)) else (some x3)
def spec_l1Same.f (k : Nat) (a0 : Int) : Option (List Int) := spec_l1Same.l0 k a0 (([] : List Int)) 0
set_option maxHeartbeats 8000000 in
set_option maxRecDepth 100000 in
theorem spec_l1Same.calls (k : Nat) (a0 : Int) (r : List Int) (w : World) (h : spec_l1Same.f k a0 = some r) :
    Calls Tryz.prog 97 #[.int .i64 a0] w fun e w' => ∃ v0_ : Value, e = .returned (v0_) ∧ Kd.R (Kd.int .i64) 3 w' w.heap.size (fun _ => True) v0_ r ∧ Below w.heap.size w w' := by
 have HB := A0_ (Below.refl w.heap.size w)
 have H : (spec_l1Same.l0 k a0 (([] : List Int)) 0) = some r := h
 clear h
 obtain ⟨y219, hy219⟩ : ∃ y_ : List Int, y_ = (([] : List Int)) := ⟨_, rfl⟩
 replace H : (spec_l1Same.l0 k a0 y219 0) = some r := zH hy219 H
 have Ny219 := A0_ hy219; clear hy219; have H' := A0_ H; clear H
 go_enter Tryz.func97, Tryz.ntmps97
 go_wp2_with (first | ((with_reducible refine gD (N := 5) rfl ?_); refine Kd.R_lit (Kd.int .i64) _ 3 ?hg (N := 5) ?hd (xs := ([] : List Int)) (inner := []) (ok := fun _ => True) (okp := fun _ => True) ?hr ?hp (fun _ hk => hk) trivial (Below.refl _ _) (Nat.le_refl _) (by simp) ?_; (case hd => rfl); (case hg => rfl); (case hr => first | (go_simp; done) | (go_simp; rfl)); (case hp => exact (Reps.none _ _)); intro v220 w2 ho3 hb hg_ hnew_; clear hg_ hnew_; (first | rw [← Ny219.out] at ho3 | (simp only [Int.reduceToNat] at ho3; rw [← Ny219.out] at ho3)); have HO221 := A0_ (rL ho3 (bZ (zB_ HB))); replace HB := zB HB hb; clear hb ho3))
 go_loopg [3, 4] k (fun kq v3 v4 w' => ∃ (x3_1 : List Int) (x4_1 : Int), v4 = .int .i64 x4_1 ∧ Aside0 (spec_l1Same.l0 kq a0 x3_1 x4_1 = some r) ∧ Aside0 (kq ≤ k) ∧ Aside0 (Kd.R (Kd.int .i64) 3 w' w.heap.size (fun _ => True) v3 x3_1) ∧ Aside0 (Below w.heap.size w w'))
 case atStart => exact ⟨(y219), (0), zt, H', ⟨Nat.le_refl _⟩, ⟨zR_ HO221⟩, ⟨zB_ HB⟩⟩
 case round =>
  clear H'; (try clear p2); obtain ⟨x3_1, x4_1, rfl, HA, HK1, HO_3, HB⟩ := hrel
  cases gk with
  | zero => exact absurd HA.out (by simp [spec_l1Same.l0])
  | succ k1 =>
   have H := HA.out; clear HA; simp only [spec_l1Same.l0] at H
   by_cases c4 : x4_1 < a0
   ·rw [if_pos c4] at H
    have c4b0 := dT c4; clear c4
    by_cases c5 : x3_1.length < 17592186044416
    ·rw [if_pos c5] at H
     have LMc5 := A0_ c5; clear c5
     obtain ⟨y222, hy222⟩ : ∃ y_ : List Int, y_ = (x3_1 ++ [x4_1]) := ⟨_, rfl⟩
     replace H : (spec_l1Same.l0 k1 a0 y222 (wrap64 (x4_1 + 1))) = some r := zH hy222 H
     have Ny222 := A0_ hy222; clear hy222; have H' := A0_ H; clear H
     go_wp2_with (first | ((with_reducible refine gB (b := .append) (xs := #[.tmp 11, .tmp 13]) rfl ?_); at_builtin; refine Kd.R_append (Kd.int .i64) (w0 := w) w.heap.size rfl (.tmp 11) (.tmp 13) 23 3 (.int .i64 0) 8 rfl Tryz.underlying23 info3 rfl (by decide) (by omega) u3 x3_1 x4_1 [.int .i64 x4_1] (fun _ => True) (fun _ => False) rfl rfl ?aP (fun _ hk => hk.elim) ?aF ?aO ?aB ?aS ?aL ?_; (case aP => exact rfl); (case aB => exact (zB_ HB)); (case aF => exact (fun _ _ => trivial)); (case aO => exact (zR_ HO_3)); (case aS => exact (bZ (zB_ HB))); (case aL => have := LMc5.out; omega); intro v223 w6 ho hb hg hat; rw [← Ny222.out] at ho; replace HB := A0_ (hb); have HO224 := A0_ (ho); clear HO_3 ho hb hg hat))
     go_roundg k1
     case measure => have := HK1.out; omega
     case rel => exact ⟨(y222), (wrap64 (x4_1 + 1)), zt, H', ⟨by have := HK1.out; omega⟩, ⟨zR_ HO224⟩, ⟨zB_ HB⟩⟩
    rw [if_neg c5] at H
    exact absurd H (by simp)
   rw [if_neg c4] at H; have c4b0 := dF c4; clear c4; obtain rfl := sI H
   go_wp2
   go_ret
   exact ⟨_, by first | rfl | (simp [*] <;> rfl), zR_ HO_3, zB_ HB⟩

end Go.Proofs.YtikkokflcgcnbaaGreatDoor.PFnExecuteCounts
