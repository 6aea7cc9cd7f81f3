-- Made by a program of this session (wip/tools) out of the loaded program; not trusted: Lean checks it.
import Derived.Test.YtmcgkckdnelcdaaPFnExactCoverMapx0
import Derived.Test.YtmcgkckdnelcdaaPFnExactCoverMapx7
namespace Go.Proofs.Ytmcgkckdnelcdaa.PFnExactCoverMap
open Go.RowKit Go.Proofs.YtmcgkckdnelcdaaW.PrintWords Go.Proofs.YtmcgkckdnelcdaaW.PrintLast Go.Proofs.YtmcgkckdnelcdaaW.PrintMore
attribute [local go_sem] max2_int min2_int max_two min_two max_three min_three max_four min_four   -- for this text's walks alone
set_option linter.unusedVariables false
set_option linter.unusedSimpArgs false

/-! ### impl_cover: function 64 -/
mutual
def impl_cover.l0 : Nat → Int → List (List Int) → List Int → Int → Int → List Int → List Int → List Int → List Int → Option (List Int × List Int)
  | 0, _, _, _, _, _, _, _, _, _ => none
  | k + 1, x1, x2, x26, x27, x28, x316000, x316001, x324000, x324001 => if x28 < x27 then (if 0 ≤ x28 then (if x28 < (x26.length : Int) then ((impl_along.f k x316000 x316001 x2 x28).bind fun t325 => (impl_cover.l1 k x1 x2 x28 (rd x26 x28) t325 x26 x27 x28 x1 0 x316000 x316001 x324000 x324001)) else (none)) else (none)) else (some (x324000, x324001))
def impl_cover.l1 : Nat → Int → List (List Int) → Int → Int → List Int → List Int → Int → Int → Int → Int → List Int → List Int → List Int → List Int → Option (List Int × List Int)
  | 0, _, _, _, _, _, _, _, _, _, _, _, _, _, _ => none
  | k + 1, x1, x2, x8, x9, x10, x26, x27, x28, x37, x38, x316000, x316001, x324000, x324001 => if x38 < x37 then (if 0 ≤ x8 then (if x8 < (x316000.length : Int) then (if 0 ≤ (wrap64 ((wrap64 (x1 * x8)) + x38)) then (if (wrap64 ((wrap64 (x1 * x8)) + x38)) < (x324000.length : Int) then (if 0 ≤ x38 then (if x38 < (x10.length : Int) then (if (wrap64 ((wrap64 (x1 * x8)) + x38)) < (x324001.length : Int) then (impl_cover.l1 k x1 x2 x8 x9 x10 x26 x27 x28 x37 (wrap64 (x38 + 1)) x316000 x316001 (x324000.set ((wrap64 ((wrap64 (x1 * x8)) + x38)) : Int).toNat (wrap64 ((wrap64 (x1 * (rd x316000 x8))) + x38))) (x324001.set ((wrap64 ((wrap64 (x1 * x8)) + x38)) : Int).toNat (wrap64 ((wrap64 (x1 * x9)) + (rd x10 x38))))) else (none)) else (none)) else (none)) else (none)) else (none)) else (none)) else (none)) else (impl_cover.l0 k x1 x2 x26 x27 (wrap64 (x28 + 1)) x316000 x316001 x324000 x324001)
end
def impl_cover.f (k : Nat) (l0_0 : List Int) (l0_1 : List Int) (a1 : Int) (l2 : List (List Int)) : Option (List Int × List Int) := if 0 ≤ (wrap64 (a1 * (l0_0.length : Int))) then (if (wrap64 (a1 * (l0_0.length : Int)) : Int).toNat ≤ 35184372088832 then (impl_cover.l0 k a1 l2 l0_1 (l0_1.length : Int) 0 l0_0 l0_1 (List.replicate (wrap64 (a1 * (l0_0.length : Int)) : Int).toNat 0) (List.replicate (wrap64 (a1 * (l0_0.length : Int)) : Int).toNat 0)) else (none)) else (none)
def impl_cover.T1 : Bool × List (List Nat × List Nat) := (true, [([], []), ([], []), ([1], [1]), ([2], [2]), ([0, 3], [0, 3]), ([4, 4], [4]), ([], []), ([], []), ([7], [7]), ([8], [8]), ([6, 9], [6, 9]), ([10, 10], [10]), ([5, 11], [5, 11]), ([], []), ([13, 12, 0, 1, 2, 3, 4, 5, 6, 7, 8, 9, 10, 11, 12, 13], [12, 13])])
def impl_cover.B1 : List Nat := [0, 0, 2, 6, 15, 31, 0, 0, 128, 384, 960, 1984, 4095, 0, 16383]
theorem impl_cover.tab1 : rtab .any (opsOf Try.f64 1) = impl_cover.T1 := by kernel_rfl
theorem impl_cover.bits1 : waitsOk impl_cover.T1.2 impl_cover.B1 = true := by kernel_rfl
def impl_cover.T9 : Bool × List (List Nat × List Nat) := (true, [([], []), ([0], [0]), ([], []), ([], []), ([2, 3], [2, 3]), ([], []), ([4, 5], [4, 5]), ([], []), ([], []), ([8], [8]), ([], []), ([9, 10], [9, 10]), ([11], [11]), ([7, 12], [7, 12]), ([], []), ([13, 14], [13, 14]), ([1, 6, 0, 1, 2, 3, 4, 5, 6, 7, 8, 9, 10, 11, 12, 13, 14, 15], [1, 6]), ([16, 15, 0, 1, 2, 3, 4, 5, 6, 7, 8, 9, 10, 11, 12, 13, 14, 15], [15, 16])])
def impl_cover.B9 : List Nat := [0, 1, 0, 0, 12, 0, 60, 0, 0, 256, 0, 1792, 3840, 8064, 0, 32640, 65535, 131071]
theorem impl_cover.tab9 : rtab .any (opsOf Try.f64 9) = impl_cover.T9 := by kernel_rfl
theorem impl_cover.bits9 : waitsOk impl_cover.T9.2 impl_cover.B9 = true := by kernel_rfl
def impl_cover.T10 : Bool × List (List Nat × List Nat) := (true, [([], []), ([0], [0]), ([], []), ([], []), ([2, 3], [2, 3]), ([], []), ([4, 5], [4, 5]), ([], []), ([], []), ([7, 8], [7, 8]), ([], []), ([], []), ([10, 11], [10, 11]), ([12], [12]), ([9, 13], [9, 13]), ([1, 6, 0, 1, 2, 3, 4, 5, 6, 7, 8, 9, 10, 11, 12, 13, 14], [1, 6]), ([15, 14, 0, 1, 2, 3, 4, 5, 6, 7, 8, 9, 10, 11, 12, 13, 14], [14, 15])])
def impl_cover.B10 : List Nat := [0, 1, 0, 0, 12, 0, 60, 0, 0, 384, 0, 0, 3072, 7168, 16256, 32767, 65535]
theorem impl_cover.tab10 : rtab .any (opsOf Try.f64 10) = impl_cover.T10 := by kernel_rfl
theorem impl_cover.bits10 : waitsOk impl_cover.T10.2 impl_cover.B10 = true := by kernel_rfl
set_option maxHeartbeats 8000000 in
set_option maxRecDepth 100000 in
theorem impl_cover.calls (k : Nat) (A0_0 : Option Addr) (c0_0 : Nat) (l0_0 : List Int) (A0_1 : Option Addr) (c0_1 : Nat) (l0_1 : List Int) (a1 : Int) (A2 : Option Addr) (c2 : Nat) (l2 : List (List Int)) (r1 : List Int) (r2 : List Int) (w : World) (hr0_0 : Kd.C (Kd.int .i64) w A0_0 l0_0.length l0_0) (hc0_0 : l0_0.length ≤ c0_0) (hr0_1 : Kd.C (Kd.int .i64) w A0_1 l0_1.length l0_1) (hc0_1 : l0_1.length ≤ c0_1) (hr2 : Kd.C (Kd.slice 3 (Kd.int .i64)) w A2 l2.length l2) (hc2 : l2.length ≤ c2) (h : impl_cover.f k l0_0 l0_1 a1 l2 = some (r1, r2)) :
    Calls Try.prog 64 #[.agg #[.slice A0_0 l0_0.length c0_0, .slice A0_1 l0_1.length c0_1], .int .i64 a1, .slice A2 l2.length c2] w fun e w' => ∃ v0_ v1_ : Value, e = .returned (.agg #[v0_, v1_]) ∧ Kd.R (Kd.int .i64) 3 w' w.heap.size (fun k_ => some k_ ≠ (v1_ : Value).ownBlock) v0_ r1 ∧ Kd.R (Kd.int .i64) 3 w' w.heap.size (fun k_ => some k_ ≠ (v0_ : Value).ownBlock) v1_ r2 ∧ Below w.heap.size w w' := by
 have hu29 := Try.underlying29
 have HR0_0 := A0_ hr0_0
 have HC0_0 := A0_ hc0_0
 clear hr0_0 hc0_0
 have HR0_1 := A0_ hr0_1
 have HC0_1 := A0_ hc0_1
 clear hr0_1 hc0_1
 have HR2 := A0_ hr2
 have HC2 := A0_ hc2
 clear hr2 hc2
 have HB := A0_ (Below.refl w.heap.size w)
 have H : (if 0 ≤ (wrap64 (a1 * (l0_0.length : Int))) then (if (wrap64 (a1 * (l0_0.length : Int)) : Int).toNat ≤ 35184372088832 then (impl_cover.l0 k a1 l2 l0_1 (l0_1.length : Int) 0 l0_0 l0_1 (List.replicate (wrap64 (a1 * (l0_0.length : Int)) : Int).toNat 0) (List.replicate (wrap64 (a1 * (l0_0.length : Int)) : Int).toNat 0)) else (none)) else (none)) = some (r1, r2) := h
 clear h
 obtain ⟨ji4, hji4⟩ : ∃ j_ : Int, (wrap64 (a1 * (l0_0.length : Int))) = j_ := ⟨_, rfl⟩
 replace H : (if 0 ≤ (ji4) then (if (ji4 : Int).toNat ≤ 35184372088832 then (impl_cover.l0 k a1 l2 l0_1 (l0_1.length : Int) 0 l0_0 l0_1 (List.replicate (ji4 : Int).toNat 0) (List.replicate (ji4 : Int).toNat 0)) else (none)) else (none)) = some (r1, r2) := by first | (rw [hji4] at H; exact H) | (simp only [hji4] at H ⊢; exact H)
 have hji4w : (IntKind.i64.wrap (a1 * (l0_0.length : Int))) = ji4 := (i64_w _).trans hji4
 by_cases c5 : 0 ≤ (ji4)
 ·rw [if_pos c5] at H
  have c5b0 := eq_true c5
  have c5b1 : decide (0 ≤ (ji4)) = true := dT c5
  clear c5
  by_cases c6 : (ji4 : Int).toNat ≤ 35184372088832
  ·rw [if_pos c6] at H
   have c6b0 := eq_true c6
   have c6b1 : decide ((ji4 : Int).toNat ≤ 35184372088832) = true := dT c6
   clear c6
   obtain ⟨y317, hy317⟩ : ∃ y_ : List Int, y_ = (List.replicate (ji4 : Int).toNat 0) := ⟨_, rfl⟩
   replace H : (impl_cover.l0 k a1 l2 l0_1 (l0_1.length : Int) 0 l0_0 l0_1 y317 (List.replicate (ji4 : Int).toNat 0)) = some (r1, r2) := by first | (rw [hy317]; with_reducible exact H) | (have H2_ := (Option.bind_some _ _).symm.trans H; rw [hy317]; with_reducible exact H2_) | (have H2_ := (Option.bind_some _ _).symm.trans H; with_reducible exact H2_) | with_reducible exact H | (rw [hy317]; exact H) | exact H
   have Ny317 := A0_ hy317
   clear hy317
   obtain ⟨y320, hy320⟩ : ∃ y_ : List Int, y_ = (List.replicate (ji4 : Int).toNat 0) := ⟨_, rfl⟩
   replace H : (impl_cover.l0 k a1 l2 l0_1 (l0_1.length : Int) 0 l0_0 l0_1 y317 y320) = some (r1, r2) := by first | (rw [hy320]; with_reducible exact H) | (have H2_ := (Option.bind_some _ _).symm.trans H; rw [hy320]; with_reducible exact H2_) | (have H2_ := (Option.bind_some _ _).symm.trans H; with_reducible exact H2_) | with_reducible exact H | (rw [hy320]; exact H) | exact H
   have Ny320 := A0_ hy320
   clear hy320
   have H' := A0_ H
   clear H
   go_enter Try.func64, Try.ntmps64
   try go_wp2_with (first | ((with_reducible refine gD (N := 3) rfl ?_); refine box_event ?hg (N := 3) ?hd (cs := #[.slice A0_0 l0_0.length c0_0, .slice A0_1 l0_1.length c0_1]) (t := 29) ?hr ?_; (case hd => rfl); (case hg => rfl); (case hr => first | (go_simp; done) | (go_simp; rfl)); intro gb315 hg w7 hbox hb; have n0_ := A0_ (bT (by repeat (first | (with_reducible first | exact HB.out | apply bA | apply bN | apply bD) | exact HB.out)) hb); have n1_ := A0_ (hbox); have n2_ := A0_ ((by rw [hg]; exact (bZ (by repeat (first | (with_reducible first | exact HB.out | apply bA | apply bN | apply bD) | exact HB.out))) : w.heap.size ≤ gb315)); have n3_ := A0_ ((by rw [hg]; exact (bZ (by repeat (first | (with_reducible first | exact HB.out | apply bA | apply bN | apply bD) | exact HB.out))) : w.heap.size ≤ gb315)); clear HB; have HB := n0_; have BK315 := n1_; have GW315 := n2_; have GE315 := n3_; clear n0_ n1_ n2_ n3_; clear hb hbox hg) | ((with_reducible refine gD (N := 6) rfl ?_); refine box_event ?hg (N := 6) ?hd (cs := #[.slice none 0 0, .slice none 0 0]) (t := 29) ?hr ?_; (case hd => rfl); (case hg => rfl); (case hr => first | (go_simp; done) | (go_simp; rfl)); intro gb316 hg w8 hbox hb; have n0_ := A0_ (kB (g := gb315) (o := .cells #[.slice A0_0 l0_0.length c0_0, .slice A0_1 l0_1.length c0_1] 29 (0, 0)) (by (with_reducible repeat refine kA ?_ _); exact BK315.out) hb); have n1_ := A0_ (bT (by repeat (first | (with_reducible first | exact HB.out | apply bA | apply bN | apply bD | refine bS ?_ GE315.out) | exact HB.out)) hb); have n2_ := A0_ (hbox); have n3_ := A0_ ((by rw [hg]; exact (bZ (by repeat (first | (with_reducible first | exact HB.out | apply bA | apply bN | apply bD | refine bS ?_ GE315.out) | exact HB.out))) : w.heap.size ≤ gb316)); have n4_ := A0_ ((by rw [hg]; exact (bZ (by repeat (first | (with_reducible first | exact HB.out | apply bA | apply bN | apply bD | refine bS ?_ GE315.out) | exact HB.out))) : w.heap.size ≤ gb316)); have n5_ := A0_ ((by rw [hg]; exact Nat.ne_of_lt (kL (g := gb315) (o := .cells #[.slice A0_0 l0_0.length c0_0, .slice A0_1 l0_1.length c0_1] 29 (0, 0)) (by (with_reducible repeat refine kA ?_ _); exact BK315.out)) : gb315 ≠ gb316)); have n6_ := A0_ ((by rw [hg]; exact Nat.ne_of_gt (kL (g := gb315) (o := .cells #[.slice A0_0 l0_0.length c0_0, .slice A0_1 l0_1.length c0_1] 29 (0, 0)) (by (with_reducible repeat refine kA ?_ _); exact BK315.out)) : gb316 ≠ gb315)); clear BK315; clear HB; have BK315 := n0_; have HB := n1_; have BK316 := n2_; have GW316 := n3_; have GE316 := n4_; have NB315_316 := n5_; have NB316_315 := n6_; clear n0_ n1_ n2_ n3_ n4_ n5_ n6_; clear hb hbox hg))
   have n0_ := A0_ (kD BK315.out)
   have n1_ := A0_ (kD BK316.out)
   have n2_ := A0_ (bD HB.out)
   clear BK315
   clear BK316
   clear HB
   have BK315 := n0_
   have BK316 := n1_
   have HB := n2_
   clear n0_ n1_ n2_
   refine start_ (n := 15) (S := fun w' => w'.cell? ⟨gb315, 0, none⟩ = some (.slice A0_0 l0_0.length c0_0) ∧ w'.cell? ⟨gb315, 1, none⟩ = some (.slice A0_1 l0_1.length c0_1)) (ds := []) #[false, false, false, false, false, false, false, false, false, false, false, false, false, false, false] (by kernel_rfl) rfl rfl ⟨(kC BK315.out 0).trans rfl, (kC BK315.out 1).trans rfl⟩ (fun hHeld => ?_); refine with_tabW impl_cover.tab1 impl_cover.bits1 (fun HT_ HW_ => ?_)
   generalize w8.drew = w9 at BK315 BK316 HB hHeld ⊢
   refine pure_ (i := 0) (N := some 12) (v := ?_) (a' := ?_) #[true, false, false, false, false, false, false, false, false, false, false, false, false, false, false] rfl rfl (any_of HT_.out (by kernel_rfl)) (fun _ _ _ h => h) (Or.inl ⟨by rfl, ?_⟩) ?_ ?_
   rotate_left
   ·intro w'
    go_simp
    with_reducible rfl
   rotate_left
   ·simp only [Act.put, List.setIfInBounds_toArray, List.set_cons_zero, List.set_cons_succ, i64_w, i32_w]
    rfl
   refine pure_ (i := 1) (N := some 13) (v := ?_) (a' := ?_) #[true, true, false, false, false, false, false, false, false, false, false, false, false, false, false] rfl rfl (any_of HT_.out (by kernel_rfl)) (fun _ _ _ h => h) (Or.inl ⟨by rfl, ?_⟩) ?_ ?_
   rotate_left
   ·intro w'
    go_simp
    with_reducible rfl
   rotate_left
   ·simp only [Act.put, List.setIfInBounds_toArray, List.set_cons_zero, List.set_cons_succ, i64_w, i32_w]
    rfl
   refine pure_ (i := 6) (N := some 18) (v := ?_) (a' := ?_) #[true, true, false, false, false, false, true, false, false, false, false, false, false, false, false] rfl rfl (any_of HT_.out (by kernel_rfl)) (fun _ _ _ h => h) (Or.inl ⟨by rfl, ?_⟩) ?_ ?_
   rotate_left
   ·intro w'
    go_simp
    with_reducible rfl
   rotate_left
   ·simp only [Act.put, List.setIfInBounds_toArray, List.set_cons_zero, List.set_cons_succ, i64_w, i32_w]
    rfl
   refine pure_ (i := 7) (N := some 19) (v := ?_) (a' := ?_) #[true, true, false, false, false, false, true, true, false, false, false, false, false, false, false] rfl rfl (any_of HT_.out (by kernel_rfl)) (fun _ _ _ h => h) (Or.inl ⟨by rfl, ?_⟩) ?_ ?_
   rotate_left
   ·intro w'
    go_simp
    with_reducible rfl
   rotate_left
   ·simp only [Act.put, List.setIfInBounds_toArray, List.set_cons_zero, List.set_cons_succ, i64_w, i32_w]
    rfl
   refine take_ (i := 2) (N := some 14) (v := ?_) (a' := ?_) #[true, true, true, false, false, false, true, true, false, false, false, false, false, false, false] rfl rfl (take_ofW HT_.out HW_.out (by kernel_rfl)) (fun _ _ _ h => h) (Or.inl ⟨by rfl, ?_⟩) hHeld ?_ ?_
   rotate_left
   ·rintro w' ⟨s0, s1⟩
    go_simp
    with_reducible rfl
   rotate_left
   ·simp only [Act.put, List.setIfInBounds_toArray, List.set_cons_zero, List.set_cons_succ, i64_w, i32_w]
    rfl
   refine pure_ (i := 3) (N := some 15) (v := ?_) (a' := ?_) #[true, true, true, true, false, false, true, true, false, false, false, false, false, false, false] rfl rfl (any_of HT_.out (by kernel_rfl)) (fun _ _ _ h => h) (Or.inl ⟨by rfl, ?_⟩) ?_ ?_
   rotate_left
   ·intro w'
    go_simp
    with_reducible rfl
   rotate_left
   ·simp only [Act.put, List.setIfInBounds_toArray, List.set_cons_zero, List.set_cons_succ, i64_w, i32_w]
    rfl
   refine pure_ (i := 4) (N := some 16) (v := ?_) (a' := ?_) #[true, true, true, true, true, false, true, true, false, false, false, false, false, false, false] rfl rfl (any_of HT_.out (by kernel_rfl)) (fun _ _ _ h => h) (Or.inl ⟨by rfl, ?_⟩) ?_ ?_
   rotate_left
   ·intro w'
    go_simp
    with_reducible rfl
   rotate_left
   ·simp only [Act.put, List.setIfInBounds_toArray, List.set_cons_zero, List.set_cons_succ, i64_w, i32_w]
    rfl
   refine take_ (i := 8) (N := some 20) (v := ?_) (a' := ?_) #[true, true, true, true, true, false, true, true, true, false, false, false, false, false, false] rfl rfl (take_ofW HT_.out HW_.out (by kernel_rfl)) (fun _ _ _ h => h) (Or.inl ⟨by rfl, ?_⟩) hHeld ?_ ?_
   rotate_left
   ·rintro w' ⟨s0, s1⟩
    go_simp
    with_reducible rfl
   rotate_left
   ·simp only [Act.put, List.setIfInBounds_toArray, List.set_cons_zero, List.set_cons_succ, i64_w, i32_w]
    rfl
   refine pure_ (i := 9) (N := some 21) (v := ?_) (a' := ?_) #[true, true, true, true, true, false, true, true, true, true, false, false, false, false, false] rfl rfl (any_of HT_.out (by kernel_rfl)) (fun _ _ _ h => h) (Or.inl ⟨by rfl, ?_⟩) ?_ ?_
   rotate_left
   ·intro w'
    go_simp
    with_reducible rfl
   rotate_left
   ·simp only [Act.put, List.setIfInBounds_toArray, List.set_cons_zero, List.set_cons_succ, i64_w, i32_w]
    rfl
   refine pure_ (i := 10) (N := some 22) (v := ?_) (a' := ?_) #[true, true, true, true, true, false, true, true, true, true, true, false, false, false, false] rfl rfl (any_of HT_.out (by kernel_rfl)) (fun _ _ _ h => h) (Or.inl ⟨by rfl, ?_⟩) ?_ ?_
   rotate_left
   ·intro w'
    go_simp
    with_reducible rfl
   rotate_left
   ·simp only [Act.put, List.setIfInBounds_toArray, List.set_cons_zero, List.set_cons_succ, i64_w, i32_w]
    rfl
   refine join_ (σ := Value × Value × Nat) 1 #[true, true, true, true, true, true, true, true, true, true, true, true, true, true, false] (fun s_ => [(17, s_.1), (23, s_.2.1), (7, .pointer (some ⟨s_.2.2, 0, none⟩)), (24, .agg #[s_.1, s_.2.1])]) (fun s_ w' => (w'.cell? ⟨gb315, 0, none⟩ = some (.slice A0_0 l0_0.length c0_0) ∧ w'.cell? ⟨gb315, 1, none⟩ = some (.slice A0_1 l0_1.length c0_1)) ∧ (Kd.R (Kd.int .i64) 3 w' w.heap.size (fun k_ => some k_ ≠ (s_.2.1 : Value).ownBlock) s_.1 y317) ∧ (Kd.R (Kd.int .i64) 3 w' w.heap.size (fun k_ => some k_ ≠ (s_.1 : Value).ownBlock) s_.2.1 y320) ∧ (w'.heap[gb315]? = some (.cells #[.slice A0_0 l0_0.length c0_0, .slice A0_1 l0_1.length c0_1] 29 (0, 0))) ∧ (w'.heap[gb316]? = some (.cells #[.slice none 0 0, .slice none 0 0] 29 (0, 0))) ∧ (w'.heap[s_.2.2]? = some (.cells #[.slice none 0 0, .slice none 0 0] 29 (0, 0))) ∧ (w.heap.size ≤ s_.2.2) ∧ (w.heap.size ≤ s_.2.2) ∧ (gb315 ≠ s_.2.2) ∧ (s_.2.2 ≠ gb315) ∧ (gb316 ≠ s_.2.2) ∧ (s_.2.2 ≠ gb316) ∧ (Below w.heap.size w w')) ?_ ?_
   rotate_left
   ·intro hJ5_11_13
    refine join_ (σ := Value × Value) 2 #[true, true, true, true, true, true, true, true, true, true, true, true, true, false, false] (fun s_ => [(17, s_.1), (23, s_.2), (24, .agg #[s_.1, s_.2])]) (fun s_ w' => (w'.cell? ⟨gb315, 0, none⟩ = some (.slice A0_0 l0_0.length c0_0) ∧ w'.cell? ⟨gb315, 1, none⟩ = some (.slice A0_1 l0_1.length c0_1)) ∧ (Kd.R (Kd.int .i64) 3 w' w.heap.size (fun k_ => some k_ ≠ (s_.2 : Value).ownBlock) s_.1 y317) ∧ (Kd.R (Kd.int .i64) 3 w' w.heap.size (fun k_ => some k_ ≠ (s_.1 : Value).ownBlock) s_.2 y320) ∧ (w'.heap[gb315]? = some (.cells #[.slice A0_0 l0_0.length c0_0, .slice A0_1 l0_1.length c0_1] 29 (0, 0))) ∧ (w'.heap[gb316]? = some (.cells #[.slice none 0 0, .slice none 0 0] 29 (0, 0))) ∧ (Below w.heap.size w w')) ?_ ?_
    rotate_left
    ·intro hJ5_11
     refine join_ (σ := Value × Nat) 3 #[true, true, true, true, true, true, true, true, true, true, true, false, false, true, false] (fun s_ => [(17, s_.1), (7, .pointer (some ⟨s_.2, 0, none⟩))]) (fun s_ w' => (w'.cell? ⟨gb315, 0, none⟩ = some (.slice A0_0 l0_0.length c0_0) ∧ w'.cell? ⟨gb315, 1, none⟩ = some (.slice A0_1 l0_1.length c0_1)) ∧ (Kd.R (Kd.int .i64) 3 w' w.heap.size (fun _ => True) s_.1 y317) ∧ (w'.heap[gb315]? = some (.cells #[.slice A0_0 l0_0.length c0_0, .slice A0_1 l0_1.length c0_1] 29 (0, 0))) ∧ (w'.heap[gb316]? = some (.cells #[.slice none 0 0, .slice none 0 0] 29 (0, 0))) ∧ (w'.heap[s_.2]? = some (.cells #[.slice none 0 0, .slice none 0 0] 29 (0, 0))) ∧ (w.heap.size ≤ s_.2) ∧ (w.heap.size ≤ s_.2) ∧ (gb315 ≠ s_.2) ∧ (s_.2 ≠ gb315) ∧ (gb316 ≠ s_.2) ∧ (s_.2 ≠ gb316) ∧ (Below w.heap.size w w')) ?_ ?_
     rotate_left
     ·intro hJ5_13
      refine join_ (σ := Value × Nat) 3 #[true, true, true, true, true, false, true, true, true, true, true, true, false, true, false] (fun s_ => [(23, s_.1), (7, .pointer (some ⟨s_.2, 0, none⟩))]) (fun s_ w' => (w'.cell? ⟨gb315, 0, none⟩ = some (.slice A0_0 l0_0.length c0_0) ∧ w'.cell? ⟨gb315, 1, none⟩ = some (.slice A0_1 l0_1.length c0_1)) ∧ (Kd.R (Kd.int .i64) 3 w' w.heap.size (fun _ => True) s_.1 y320) ∧ (w'.heap[gb315]? = some (.cells #[.slice A0_0 l0_0.length c0_0, .slice A0_1 l0_1.length c0_1] 29 (0, 0))) ∧ (w'.heap[gb316]? = some (.cells #[.slice none 0 0, .slice none 0 0] 29 (0, 0))) ∧ (w'.heap[s_.2]? = some (.cells #[.slice none 0 0, .slice none 0 0] 29 (0, 0))) ∧ (w.heap.size ≤ s_.2) ∧ (w.heap.size ≤ s_.2) ∧ (gb315 ≠ s_.2) ∧ (s_.2 ≠ gb315) ∧ (gb316 ≠ s_.2) ∧ (s_.2 ≠ gb316) ∧ (Below w.heap.size w w')) ?_ ?_
      rotate_left
      ·intro hJ11_13
       refine join_ (σ := Value) 4 #[true, true, true, true, true, true, true, true, true, true, true, false, false, false, false] (fun s_ => [(17, s_)]) (fun s_ w' => (w'.cell? ⟨gb315, 0, none⟩ = some (.slice A0_0 l0_0.length c0_0) ∧ w'.cell? ⟨gb315, 1, none⟩ = some (.slice A0_1 l0_1.length c0_1)) ∧ (Kd.R (Kd.int .i64) 3 w' w.heap.size (fun _ => True) s_ y317) ∧ (w'.heap[gb315]? = some (.cells #[.slice A0_0 l0_0.length c0_0, .slice A0_1 l0_1.length c0_1] 29 (0, 0))) ∧ (w'.heap[gb316]? = some (.cells #[.slice none 0 0, .slice none 0 0] 29 (0, 0))) ∧ (Below w.heap.size w w')) ?_ ?_
       rotate_left
       ·intro hJ5
        refine join_ (σ := Value) 4 #[true, true, true, true, true, false, true, true, true, true, true, true, false, false, false] (fun s_ => [(23, s_)]) (fun s_ w' => (w'.cell? ⟨gb315, 0, none⟩ = some (.slice A0_0 l0_0.length c0_0) ∧ w'.cell? ⟨gb315, 1, none⟩ = some (.slice A0_1 l0_1.length c0_1)) ∧ (Kd.R (Kd.int .i64) 3 w' w.heap.size (fun _ => True) s_ y320) ∧ (w'.heap[gb315]? = some (.cells #[.slice A0_0 l0_0.length c0_0, .slice A0_1 l0_1.length c0_1] 29 (0, 0))) ∧ (w'.heap[gb316]? = some (.cells #[.slice none 0 0, .slice none 0 0] 29 (0, 0))) ∧ (Below w.heap.size w w')) ?_ ?_
        rotate_left
        ·intro hJ11
         refine join_ (σ := Nat) 4 #[true, true, true, true, true, false, true, true, true, true, true, false, false, true, false] (fun s_ => [(7, .pointer (some ⟨s_, 0, none⟩))]) (fun s_ w' => (w'.cell? ⟨gb315, 0, none⟩ = some (.slice A0_0 l0_0.length c0_0) ∧ w'.cell? ⟨gb315, 1, none⟩ = some (.slice A0_1 l0_1.length c0_1)) ∧ (w'.heap[gb315]? = some (.cells #[.slice A0_0 l0_0.length c0_0, .slice A0_1 l0_1.length c0_1] 29 (0, 0))) ∧ (w'.heap[gb316]? = some (.cells #[.slice none 0 0, .slice none 0 0] 29 (0, 0))) ∧ (w'.heap[s_]? = some (.cells #[.slice none 0 0, .slice none 0 0] 29 (0, 0))) ∧ (w.heap.size ≤ s_) ∧ (w.heap.size ≤ s_) ∧ (gb315 ≠ s_) ∧ (s_ ≠ gb315) ∧ (gb316 ≠ s_) ∧ (s_ ≠ gb316) ∧ (Below w.heap.size w w')) ?_ ?_
         rotate_left
         ·intro hJ13
          refine three_ (i := 5) (j := 11) (k := 13) (Ni := some 17) (Nj := some 23) (Nk := some 7) #[true, true, true, true, true, true, true, true, true, true, true, false, false, false, false] #[true, true, true, true, true, false, true, true, true, true, true, true, false, false, false] #[true, true, true, true, true, false, true, true, true, true, true, false, false, true, false] rfl rfl rfl rfl rfl rfl (three_of HT_.out (by kernel_rfl)) (by decide) (by decide) (by decide) (fun K hK => ?_) (fun K hK => ?_) (fun K hK => ?_)
          ·skip
           refine Kd.R_make_step (Kd.int .i64) _ 3 (by rfl) (N := 17) rfl 22 _ _ rfl ji4 rfl rfl Try.underlying22 (.int .i64 0) 8 info3 rfl (by decide) (by omega) 0 (ok := fun _ => True) (okp := fun _ => True) rfl (fun _ hk => hk) trivial (oD (by assumption)) (Nat.le_trans (Nat.mul_le_mul_right _ (oD (by assumption) : ji4.toNat ≤ 35184372088832)) (by omega)) (Below.refl _ _) (Nat.le_refl _) ?_
           intro v318 w10 ho11 hb hg_ hnew_
           clear hg_ hnew_
           (first | rw [← Ny317.out] at ho11 | (simp only [Int.reduceToNat] at ho11; rw [← Ny317.out] at ho11))
           have n0_ := A0_ (rL ho11 (bZ (by repeat (first | (with_reducible first | exact HB.out | apply bA | apply bN | apply bD | refine bS ?_ GE315.out | refine bS ?_ GE316.out) | exact HB.out))))
           have n1_ := A0_ (kB (g := gb315) (o := .cells #[.slice A0_0 l0_0.length c0_0, .slice A0_1 l0_1.length c0_1] 29 (0, 0)) (by (with_reducible repeat (first | refine kN ?_ _ | refine kD ?_ | refine kA ?_ _)); exact BK315.out) hb)
           have n2_ := A0_ (kB (g := gb316) (o := .cells #[.slice none 0 0, .slice none 0 0] 29 (0, 0)) (by (with_reducible repeat (first | refine kN ?_ _ | refine kD ?_ | refine kA ?_ _)); exact BK316.out) hb)
           have n3_ := A0_ (bT (by repeat (first | (with_reducible first | exact HB.out | apply bA | apply bN | apply bD | refine bS ?_ GE315.out | refine bS ?_ GE316.out) | exact HB.out)) hb)
           clear BK315
           clear BK316
           clear HB
           have HO319 := n0_
           have BK315 := n1_
           have BK316 := n2_
           have HB := n3_
           clear n0_ n1_ n2_ n3_
           clear hb ho11
           refine hK.out _ _ ⟨(kC BK315.out 0).trans rfl, (kC BK315.out 1).trans rfl⟩ (fun hHeld => ?_)
           clear hK K
           refine norm_ (a' := ?_) ?_ ?_
           rotate_left
           ·show Act.put _ (some 17) _ = _
            simp only [Act.put, List.setIfInBounds_toArray, List.set_cons_zero, List.set_cons_succ, i64_w, i32_w]
            rfl
           exact norm_ (by first | (simp only [putAll, Act.put, List.setIfInBounds_toArray, List.set_cons_zero, List.set_cons_succ]; done) | (simp only [putAll, Act.put, List.setIfInBounds_toArray, List.set_cons_zero, List.set_cons_succ]; rfl)) (hJ5 (v318) _ ⟨hHeld, (by (with_reducible repeat (first | apply rA | apply rN | apply rD)); exact HO319.out), (by (with_reducible repeat (first | refine kN ?_ _ | refine kD ?_ | refine kA ?_ _)); exact BK315.out), (by (with_reducible repeat (first | refine kN ?_ _ | refine kD ?_ | refine kA ?_ _)); exact BK316.out), (by repeat (first | (with_reducible first | exact HB.out | apply bA | apply bN | apply bD | refine bS ?_ GE315.out | refine bS ?_ GE316.out) | exact HB.out))⟩)
          ·skip
           refine Kd.R_make_step (Kd.int .i64) _ 3 (by rfl) (N := 23) rfl 22 _ _ rfl ji4 rfl rfl Try.underlying22 (.int .i64 0) 8 info3 rfl (by decide) (by omega) 0 (ok := fun _ => True) (okp := fun _ => True) rfl (fun _ hk => hk) trivial (oD (by assumption)) (Nat.le_trans (Nat.mul_le_mul_right _ (oD (by assumption) : ji4.toNat ≤ 35184372088832)) (by omega)) (Below.refl _ _) (Nat.le_refl _) ?_
           intro v321 w10 ho11 hb hg_ hnew_
           clear hg_ hnew_
           (first | rw [← Ny320.out] at ho11 | (simp only [Int.reduceToNat] at ho11; rw [← Ny320.out] at ho11))
           have n0_ := A0_ (rL ho11 (bZ (by repeat (first | (with_reducible first | exact HB.out | apply bA | apply bN | apply bD | refine bS ?_ GE315.out | refine bS ?_ GE316.out) | exact HB.out))))
           have n1_ := A0_ (kB (g := gb315) (o := .cells #[.slice A0_0 l0_0.length c0_0, .slice A0_1 l0_1.length c0_1] 29 (0, 0)) (by (with_reducible repeat (first | refine kN ?_ _ | refine kD ?_ | refine kA ?_ _)); exact BK315.out) hb)
           have n2_ := A0_ (kB (g := gb316) (o := .cells #[.slice none 0 0, .slice none 0 0] 29 (0, 0)) (by (with_reducible repeat (first | refine kN ?_ _ | refine kD ?_ | refine kA ?_ _)); exact BK316.out) hb)
           have n3_ := A0_ (bT (by repeat (first | (with_reducible first | exact HB.out | apply bA | apply bN | apply bD | refine bS ?_ GE315.out | refine bS ?_ GE316.out) | exact HB.out)) hb)
           clear BK315
           clear BK316
           clear HB
           have HO322 := n0_
           have BK315 := n1_
           have BK316 := n2_
           have HB := n3_
           clear n0_ n1_ n2_ n3_
           clear hb ho11
           refine hK.out _ _ ⟨(kC BK315.out 0).trans rfl, (kC BK315.out 1).trans rfl⟩ (fun hHeld => ?_)
           clear hK K
           refine norm_ (a' := ?_) ?_ ?_
           rotate_left
           ·show Act.put _ (some 23) _ = _
            simp only [Act.put, List.setIfInBounds_toArray, List.set_cons_zero, List.set_cons_succ, i64_w, i32_w]
            rfl
           exact norm_ (by first | (simp only [putAll, Act.put, List.setIfInBounds_toArray, List.set_cons_zero, List.set_cons_succ]; done) | (simp only [putAll, Act.put, List.setIfInBounds_toArray, List.set_cons_zero, List.set_cons_succ]; rfl)) (hJ11 (v321) _ ⟨hHeld, (by (with_reducible repeat (first | apply rA | apply rN | apply rD)); exact HO322.out), (by (with_reducible repeat (first | refine kN ?_ _ | refine kD ?_ | refine kA ?_ _)); exact BK315.out), (by (with_reducible repeat (first | refine kN ?_ _ | refine kD ?_ | refine kA ?_ _)); exact BK316.out), (by repeat (first | (with_reducible first | exact HB.out | apply bA | apply bN | apply bD | refine bS ?_ GE315.out | refine bS ?_ GE316.out) | exact HB.out))⟩)
          ·skip
           refine box_step ?hg (N := 7) ?hd (cs := #[.slice none 0 0, .slice none 0 0]) (t := 29) ?hr ?_; (case hd => rfl); (case hg => rfl); (case hr => first | (go_simp; done) | (go_simp; rfl))
           intro gb323 hg w10 hbox hb
           have n0_ := A0_ (kB (g := gb315) (o := .cells #[.slice A0_0 l0_0.length c0_0, .slice A0_1 l0_1.length c0_1] 29 (0, 0)) (by (with_reducible repeat (first | refine kN ?_ _ | refine kD ?_ | refine kA ?_ _)); exact BK315.out) hb)
           have n1_ := A0_ (kB (g := gb316) (o := .cells #[.slice none 0 0, .slice none 0 0] 29 (0, 0)) (by (with_reducible repeat (first | refine kN ?_ _ | refine kD ?_ | refine kA ?_ _)); exact BK316.out) hb)
           have n2_ := A0_ (bT (by repeat (first | (with_reducible first | exact HB.out | apply bA | apply bN | apply bD | refine bS ?_ GE315.out | refine bS ?_ GE316.out) | exact HB.out)) hb)
           have n3_ := A0_ (hbox)
           have n4_ := A0_ ((by rw [hg]; exact (bZ (by repeat (first | (with_reducible first | exact HB.out | apply bA | apply bN | apply bD | refine bS ?_ GE315.out | refine bS ?_ GE316.out) | exact HB.out))) : w.heap.size ≤ gb323))
           have n5_ := A0_ ((by rw [hg]; exact (bZ (by repeat (first | (with_reducible first | exact HB.out | apply bA | apply bN | apply bD | refine bS ?_ GE315.out | refine bS ?_ GE316.out) | exact HB.out))) : w.heap.size ≤ gb323))
           have n6_ := A0_ ((by rw [hg]; exact Nat.ne_of_lt (kL (g := gb315) (o := .cells #[.slice A0_0 l0_0.length c0_0, .slice A0_1 l0_1.length c0_1] 29 (0, 0)) (by (with_reducible repeat (first | refine kN ?_ _ | refine kD ?_ | refine kA ?_ _)); exact BK315.out)) : gb315 ≠ gb323))
           have n7_ := A0_ ((by rw [hg]; exact Nat.ne_of_gt (kL (g := gb315) (o := .cells #[.slice A0_0 l0_0.length c0_0, .slice A0_1 l0_1.length c0_1] 29 (0, 0)) (by (with_reducible repeat (first | refine kN ?_ _ | refine kD ?_ | refine kA ?_ _)); exact BK315.out)) : gb323 ≠ gb315))
           have n8_ := A0_ ((by rw [hg]; exact Nat.ne_of_lt (kL (g := gb316) (o := .cells #[.slice none 0 0, .slice none 0 0] 29 (0, 0)) (by (with_reducible repeat (first | refine kN ?_ _ | refine kD ?_ | refine kA ?_ _)); exact BK316.out)) : gb316 ≠ gb323))
           have n9_ := A0_ ((by rw [hg]; exact Nat.ne_of_gt (kL (g := gb316) (o := .cells #[.slice none 0 0, .slice none 0 0] 29 (0, 0)) (by (with_reducible repeat (first | refine kN ?_ _ | refine kD ?_ | refine kA ?_ _)); exact BK316.out)) : gb323 ≠ gb316))
           clear BK315
           clear BK316
           clear HB
           have BK315 := n0_
           have BK316 := n1_
           have HB := n2_
           have BK323 := n3_
           have GW323 := n4_
           have GE323 := n5_
           have NB315_323 := n6_
           have NB323_315 := n7_
           have NB316_323 := n8_
           have NB323_316 := n9_
           clear n0_ n1_ n2_ n3_ n4_ n5_ n6_ n7_ n8_ n9_
           clear hb hbox hg
           refine hK.out _ _ ⟨(kC BK315.out 0).trans rfl, (kC BK315.out 1).trans rfl⟩ (fun hHeld => ?_)
           clear hK K
           refine norm_ (a' := ?_) ?_ ?_
           rotate_left
           ·show Act.put _ (some 7) _ = _
            simp only [Act.put, List.setIfInBounds_toArray, List.set_cons_zero, List.set_cons_succ, i64_w, i32_w]
            rfl
           exact norm_ (by first | (simp only [putAll, Act.put, List.setIfInBounds_toArray, List.set_cons_zero, List.set_cons_succ]; done) | (simp only [putAll, Act.put, List.setIfInBounds_toArray, List.set_cons_zero, List.set_cons_succ]; rfl)) (hJ13 (gb323) _ ⟨hHeld, (by (with_reducible repeat (first | refine kN ?_ _ | refine kD ?_ | refine kA ?_ _)); exact BK315.out), (by (with_reducible repeat (first | refine kN ?_ _ | refine kD ?_ | refine kA ?_ _)); exact BK316.out), (by (with_reducible repeat (first | refine kN ?_ _ | refine kD ?_ | refine kA ?_ _)); exact BK323.out), GW323.out, GE323.out, NB315_323.out, NB323_315.out, NB316_323.out, NB323_316.out, (by repeat (first | (with_reducible first | exact HB.out | apply bA | apply bN | apply bD | refine bS ?_ GE315.out | refine bS ?_ GE316.out | refine bS ?_ GE323.out) | exact HB.out))⟩)
         ·skip
          rintro gb323 w11 ⟨hS_, h0_, h1_, h2_, h3_, h4_, h5_, h6_, h7_, h8_, h9_⟩
          have n0_ : Aside0 (w11.heap[gb315]? = some (.cells #[.slice A0_0 l0_0.length c0_0, .slice A0_1 l0_1.length c0_1] 29 (0, 0))) := ⟨h0_⟩
          have n1_ : Aside0 (w11.heap[gb316]? = some (.cells #[.slice none 0 0, .slice none 0 0] 29 (0, 0))) := ⟨h1_⟩
          have n2_ : Aside0 (w11.heap[gb323]? = some (.cells #[.slice none 0 0, .slice none 0 0] 29 (0, 0))) := ⟨h2_⟩
          have n3_ : Aside0 (w.heap.size ≤ gb323) := ⟨h3_⟩
          have n4_ : Aside0 (w.heap.size ≤ gb323) := ⟨h4_⟩
          have n5_ : Aside0 (gb315 ≠ gb323) := ⟨h5_⟩
          have n6_ : Aside0 (gb323 ≠ gb315) := ⟨h6_⟩
          have n7_ : Aside0 (gb316 ≠ gb323) := ⟨h7_⟩
          have n8_ : Aside0 (gb323 ≠ gb316) := ⟨h8_⟩
          have n9_ : Aside0 (Below w.heap.size w w11) := ⟨h9_⟩
          clear BK315
          clear BK316
          clear HB
          clear h0_ h1_ h2_ h3_ h4_ h5_ h6_ h7_ h8_ h9_
          have BK315 := n0_
          have BK316 := n1_
          have BK323 := n2_
          have GW323 := n3_
          have GE323 := n4_
          have NB315_323 := n5_
          have NB323_315 := n6_
          have NB316_323 := n7_
          have NB323_316 := n8_
          have HB := n9_
          clear n0_ n1_ n2_ n3_ n4_ n5_ n6_ n7_ n8_ n9_
          have hHeld : w11.cell? ⟨gb315, 0, none⟩ = some (.slice A0_0 l0_0.length c0_0) ∧ w11.cell? ⟨gb315, 1, none⟩ = some (.slice A0_1 l0_1.length c0_1) := hS_
          refine norm_ (a' := ?_) ?_ ?_
          rotate_left
          ·simp only [putAll, Act.put, List.setIfInBounds_toArray, List.set_cons_zero, List.set_cons_succ]
           rfl
          refine two_ (i := 5) (j := 11) (Ni := some 17) (Nj := some 23) #[true, true, true, true, true, true, true, true, true, true, true, false, false, true, false] #[true, true, true, true, true, false, true, true, true, true, true, true, false, true, false] rfl rfl rfl rfl (two_of HT_.out (by kernel_rfl)) (by decide) (by decide) (fun K hK => ?_) (fun K hK => ?_)
          ·skip
           refine Kd.R_make_step (Kd.int .i64) _ 3 (by rfl) (N := 17) rfl 22 _ _ rfl ji4 rfl rfl Try.underlying22 (.int .i64 0) 8 info3 rfl (by decide) (by omega) 0 (ok := fun _ => True) (okp := fun _ => True) rfl (fun _ hk => hk) trivial (oD (by assumption)) (Nat.le_trans (Nat.mul_le_mul_right _ (oD (by assumption) : ji4.toNat ≤ 35184372088832)) (by omega)) (Below.refl _ _) (Nat.le_refl _) ?_
           intro v318 w12 ho13 hb hg_ hnew_
           clear hg_ hnew_
           (first | rw [← Ny317.out] at ho13 | (simp only [Int.reduceToNat] at ho13; rw [← Ny317.out] at ho13))
           have n0_ := A0_ (rL ho13 (bZ (by repeat (first | (with_reducible first | exact HB.out | apply bA | apply bN | apply bD | refine bS ?_ GE315.out | refine bS ?_ GE316.out | refine bS ?_ GE323.out) | exact HB.out))))
           have n1_ := A0_ (kB (g := gb315) (o := .cells #[.slice A0_0 l0_0.length c0_0, .slice A0_1 l0_1.length c0_1] 29 (0, 0)) (by (with_reducible repeat (first | refine kN ?_ _ | refine kD ?_ | refine kA ?_ _)); exact BK315.out) hb)
           have n2_ := A0_ (kB (g := gb316) (o := .cells #[.slice none 0 0, .slice none 0 0] 29 (0, 0)) (by (with_reducible repeat (first | refine kN ?_ _ | refine kD ?_ | refine kA ?_ _)); exact BK316.out) hb)
           have n3_ := A0_ (kB (g := gb323) (o := .cells #[.slice none 0 0, .slice none 0 0] 29 (0, 0)) (by (with_reducible repeat (first | refine kN ?_ _ | refine kD ?_ | refine kA ?_ _)); exact BK323.out) hb)
           have n4_ := A0_ (bT (by repeat (first | (with_reducible first | exact HB.out | apply bA | apply bN | apply bD | refine bS ?_ GE315.out | refine bS ?_ GE316.out | refine bS ?_ GE323.out) | exact HB.out)) hb)
           clear BK315
           clear BK316
           clear BK323
           clear HB
           have HO319 := n0_
           have BK315 := n1_
           have BK316 := n2_
           have BK323 := n3_
           have HB := n4_
           clear n0_ n1_ n2_ n3_ n4_
           clear hb ho13
           refine hK.out _ _ ⟨(kC BK315.out 0).trans rfl, (kC BK315.out 1).trans rfl⟩ (fun hHeld => ?_)
           clear hK K
           refine norm_ (a' := ?_) ?_ ?_
           rotate_left
           ·show Act.put _ (some 17) _ = _
            simp only [Act.put, List.setIfInBounds_toArray, List.set_cons_zero, List.set_cons_succ, i64_w, i32_w]
            rfl
           exact norm_ (by first | (simp only [putAll, Act.put, List.setIfInBounds_toArray, List.set_cons_zero, List.set_cons_succ]; done) | (simp only [putAll, Act.put, List.setIfInBounds_toArray, List.set_cons_zero, List.set_cons_succ]; rfl)) (hJ5_13 (v318, gb323) _ ⟨hHeld, (by (with_reducible repeat (first | apply rA | apply rN | apply rD)); exact HO319.out), (by (with_reducible repeat (first | refine kN ?_ _ | refine kD ?_ | refine kA ?_ _)); exact BK315.out), (by (with_reducible repeat (first | refine kN ?_ _ | refine kD ?_ | refine kA ?_ _)); exact BK316.out), (by (with_reducible repeat (first | refine kN ?_ _ | refine kD ?_ | refine kA ?_ _)); exact BK323.out), GW323.out, GE323.out, NB315_323.out, NB323_315.out, NB316_323.out, NB323_316.out, (by repeat (first | (with_reducible first | exact HB.out | apply bA | apply bN | apply bD | refine bS ?_ GE315.out | refine bS ?_ GE316.out | refine bS ?_ GE323.out) | exact HB.out))⟩)
          ·skip
           refine Kd.R_make_step (Kd.int .i64) _ 3 (by rfl) (N := 23) rfl 22 _ _ rfl ji4 rfl rfl Try.underlying22 (.int .i64 0) 8 info3 rfl (by decide) (by omega) 0 (ok := fun _ => True) (okp := fun _ => True) rfl (fun _ hk => hk) trivial (oD (by assumption)) (Nat.le_trans (Nat.mul_le_mul_right _ (oD (by assumption) : ji4.toNat ≤ 35184372088832)) (by omega)) (Below.refl _ _) (Nat.le_refl _) ?_
           intro v321 w12 ho13 hb hg_ hnew_
           clear hg_ hnew_
           (first | rw [← Ny320.out] at ho13 | (simp only [Int.reduceToNat] at ho13; rw [← Ny320.out] at ho13))
           have n0_ := A0_ (rL ho13 (bZ (by repeat (first | (with_reducible first | exact HB.out | apply bA | apply bN | apply bD | refine bS ?_ GE315.out | refine bS ?_ GE316.out | refine bS ?_ GE323.out) | exact HB.out))))
           have n1_ := A0_ (kB (g := gb315) (o := .cells #[.slice A0_0 l0_0.length c0_0, .slice A0_1 l0_1.length c0_1] 29 (0, 0)) (by (with_reducible repeat (first | refine kN ?_ _ | refine kD ?_ | refine kA ?_ _)); exact BK315.out) hb)
           have n2_ := A0_ (kB (g := gb316) (o := .cells #[.slice none 0 0, .slice none 0 0] 29 (0, 0)) (by (with_reducible repeat (first | refine kN ?_ _ | refine kD ?_ | refine kA ?_ _)); exact BK316.out) hb)
           have n3_ := A0_ (kB (g := gb323) (o := .cells #[.slice none 0 0, .slice none 0 0] 29 (0, 0)) (by (with_reducible repeat (first | refine kN ?_ _ | refine kD ?_ | refine kA ?_ _)); exact BK323.out) hb)
           have n4_ := A0_ (bT (by repeat (first | (with_reducible first | exact HB.out | apply bA | apply bN | apply bD | refine bS ?_ GE315.out | refine bS ?_ GE316.out | refine bS ?_ GE323.out) | exact HB.out)) hb)
           clear BK315
           clear BK316
           clear BK323
           clear HB
           have HO322 := n0_
           have BK315 := n1_
           have BK316 := n2_
           have BK323 := n3_
           have HB := n4_
           clear n0_ n1_ n2_ n3_ n4_
           clear hb ho13
           refine hK.out _ _ ⟨(kC BK315.out 0).trans rfl, (kC BK315.out 1).trans rfl⟩ (fun hHeld => ?_)
           clear hK K
           refine norm_ (a' := ?_) ?_ ?_
           rotate_left
           ·show Act.put _ (some 23) _ = _
            simp only [Act.put, List.setIfInBounds_toArray, List.set_cons_zero, List.set_cons_succ, i64_w, i32_w]
            rfl
           exact norm_ (by first | (simp only [putAll, Act.put, List.setIfInBounds_toArray, List.set_cons_zero, List.set_cons_succ]; done) | (simp only [putAll, Act.put, List.setIfInBounds_toArray, List.set_cons_zero, List.set_cons_succ]; rfl)) (hJ11_13 (v321, gb323) _ ⟨hHeld, (by (with_reducible repeat (first | apply rA | apply rN | apply rD)); exact HO322.out), (by (with_reducible repeat (first | refine kN ?_ _ | refine kD ?_ | refine kA ?_ _)); exact BK315.out), (by (with_reducible repeat (first | refine kN ?_ _ | refine kD ?_ | refine kA ?_ _)); exact BK316.out), (by (with_reducible repeat (first | refine kN ?_ _ | refine kD ?_ | refine kA ?_ _)); exact BK323.out), GW323.out, GE323.out, NB315_323.out, NB323_315.out, NB316_323.out, NB323_316.out, (by repeat (first | (with_reducible first | exact HB.out | apply bA | apply bN | apply bD | refine bS ?_ GE315.out | refine bS ?_ GE316.out | refine bS ?_ GE323.out) | exact HB.out))⟩)
        ·skip
         rintro v321 w12 ⟨hS_, h0_, h1_, h2_, h3_⟩
         have n0_ : Aside0 (Kd.R (Kd.int .i64) 3 w12 w.heap.size (fun _ => True) v321 y320) := ⟨h0_⟩
         have n1_ : Aside0 (w12.heap[gb315]? = some (.cells #[.slice A0_0 l0_0.length c0_0, .slice A0_1 l0_1.length c0_1] 29 (0, 0))) := ⟨h1_⟩
         have n2_ : Aside0 (w12.heap[gb316]? = some (.cells #[.slice none 0 0, .slice none 0 0] 29 (0, 0))) := ⟨h2_⟩
         have n3_ : Aside0 (Below w.heap.size w w12) := ⟨h3_⟩
         clear BK315
         clear BK316
         clear HB
         clear h0_ h1_ h2_ h3_
         have HO322 := n0_
         have BK315 := n1_
         have BK316 := n2_
         have HB := n3_
         clear n0_ n1_ n2_ n3_
         have hHeld : w12.cell? ⟨gb315, 0, none⟩ = some (.slice A0_0 l0_0.length c0_0) ∧ w12.cell? ⟨gb315, 1, none⟩ = some (.slice A0_1 l0_1.length c0_1) := hS_
         refine norm_ (a' := ?_) ?_ ?_
         rotate_left
         ·simp only [putAll, Act.put, List.setIfInBounds_toArray, List.set_cons_zero, List.set_cons_succ]
          rfl
         refine two_ (i := 5) (j := 13) (Ni := some 17) (Nj := some 7) #[true, true, true, true, true, true, true, true, true, true, true, true, false, false, false] #[true, true, true, true, true, false, true, true, true, true, true, true, false, true, false] rfl rfl rfl rfl (two_of HT_.out (by kernel_rfl)) (by decide) (by decide) (fun K hK => ?_) (fun K hK => ?_)
         ·skip
          refine Kd.R_make_step (Kd.int .i64) _ 3 (by rfl) (N := 17) rfl 22 _ _ rfl ji4 rfl rfl Try.underlying22 (.int .i64 0) 8 info3 rfl (by decide) (by omega) 0 (ok := fun _ => True) (okp := fun _ => True) rfl (fun _ hk => hk) trivial (oD (by assumption)) (Nat.le_trans (Nat.mul_le_mul_right _ (oD (by assumption) : ji4.toNat ≤ 35184372088832)) (by omega)) (Below.refl _ _) (Nat.le_refl _) ?_
          intro v318 w13 ho14 hb hg_ hnew_
          clear hg_ hnew_
          (first | rw [← Ny317.out] at ho14 | (simp only [Int.reduceToNat] at ho14; rw [← Ny317.out] at ho14))
          have n0_ := A0_ (Kd.R_elder' (by (with_reducible repeat (first | apply rA | apply rN | apply rD)); exact HO322.out) (Kd.R_base ho14) hb)
          have n1_ := A0_ (rL (Kd.R_new' ho14 (rX (by (with_reducible repeat (first | apply rA | apply rN | apply rD)); exact HO322.out))) (bZ (by repeat (first | (with_reducible first | exact HB.out | apply bA | apply bN | apply bD | refine bS ?_ GE315.out | refine bS ?_ GE316.out) | exact HB.out))))
          have n2_ := A0_ (kB (g := gb315) (o := .cells #[.slice A0_0 l0_0.length c0_0, .slice A0_1 l0_1.length c0_1] 29 (0, 0)) (by (with_reducible repeat (first | refine kN ?_ _ | refine kD ?_ | refine kA ?_ _)); exact BK315.out) hb)
          have n3_ := A0_ (kB (g := gb316) (o := .cells #[.slice none 0 0, .slice none 0 0] 29 (0, 0)) (by (with_reducible repeat (first | refine kN ?_ _ | refine kD ?_ | refine kA ?_ _)); exact BK316.out) hb)
          have n4_ := A0_ (bT (by repeat (first | (with_reducible first | exact HB.out | apply bA | apply bN | apply bD | refine bS ?_ GE315.out | refine bS ?_ GE316.out) | exact HB.out)) hb)
          clear HO322
          clear BK315
          clear BK316
          clear HB
          have HO322 := n0_
          have HO319 := n1_
          have BK315 := n2_
          have BK316 := n3_
          have HB := n4_
          clear n0_ n1_ n2_ n3_ n4_
          clear hb ho14
          obtain ⟨Ao15, co15, eo15⟩ := rS HO322.out
          (first | subst eo15 | (injection eo15 with f1_ f2_ f3_; have f4_ := f1_.symm; have f5_ := f3_.symm; clear f1_ f2_ f3_; subst f4_; subst f5_))
          obtain ⟨Ao16, co16, eo16⟩ := rS HO319.out
          (first | subst eo16 | (injection eo16 with f1_ f2_ f3_; have f4_ := f1_.symm; have f5_ := f3_.symm; clear f1_ f2_ f3_; subst f4_; subst f5_))
          refine hK.out _ _ ⟨(kC BK315.out 0).trans rfl, (kC BK315.out 1).trans rfl⟩ (fun hHeld => ?_)
          clear hK K
          refine norm_ (a' := ?_) ?_ ?_
          rotate_left
          ·show Act.put _ (some 17) _ = _
           simp only [Act.put, List.setIfInBounds_toArray, List.set_cons_zero, List.set_cons_succ, i64_w, i32_w]
           rfl
          refine pure_ (i := 12) (N := some 24) (v := ?_) (a' := ?_) #[true, true, true, true, true, true, true, true, true, true, true, true, true, false, false] rfl rfl (any_of HT_.out (by kernel_rfl)) (fun _ _ _ h => h) (Or.inl ⟨by rfl, ?_⟩) ?_ ?_
          rotate_left
          ·intro w'
           go_simp
           with_reducible rfl
          rotate_left
          ·simp only [Act.put, List.setIfInBounds_toArray, List.set_cons_zero, List.set_cons_succ, i64_w, i32_w]
           rfl
          exact norm_ (by first | (simp only [putAll, Act.put, List.setIfInBounds_toArray, List.set_cons_zero, List.set_cons_succ]; done) | (simp only [putAll, Act.put, List.setIfInBounds_toArray, List.set_cons_zero, List.set_cons_succ]; rfl)) (hJ5_11 (.slice Ao16 y317.length co16, .slice Ao15 y320.length co15) _ ⟨hHeld, (by (with_reducible repeat (first | apply rA | apply rN | apply rD)); exact rM HO319.out (fun _ hk => hk.2)), (by (with_reducible repeat (first | apply rA | apply rN | apply rD)); exact rM HO322.out (fun _ hk => hk.2)), (by (with_reducible repeat (first | refine kN ?_ _ | refine kD ?_ | refine kA ?_ _)); exact BK315.out), (by (with_reducible repeat (first | refine kN ?_ _ | refine kD ?_ | refine kA ?_ _)); exact BK316.out), (by repeat (first | (with_reducible first | exact HB.out | apply bA | apply bN | apply bD | refine bS ?_ GE315.out | refine bS ?_ GE316.out) | exact HB.out))⟩)
         ·skip
          refine box_step ?hg (N := 7) ?hd (cs := #[.slice none 0 0, .slice none 0 0]) (t := 29) ?hr ?_; (case hd => rfl); (case hg => rfl); (case hr => first | (go_simp; done) | (go_simp; rfl))
          intro gb323 hg w13 hbox hb
          have n0_ := A0_ (rB (by (with_reducible repeat (first | apply rA | apply rN | apply rD)); exact HO322.out) hb)
          have n1_ := A0_ (kB (g := gb315) (o := .cells #[.slice A0_0 l0_0.length c0_0, .slice A0_1 l0_1.length c0_1] 29 (0, 0)) (by (with_reducible repeat (first | refine kN ?_ _ | refine kD ?_ | refine kA ?_ _)); exact BK315.out) hb)
          have n2_ := A0_ (kB (g := gb316) (o := .cells #[.slice none 0 0, .slice none 0 0] 29 (0, 0)) (by (with_reducible repeat (first | refine kN ?_ _ | refine kD ?_ | refine kA ?_ _)); exact BK316.out) hb)
          have n3_ := A0_ (bT (by repeat (first | (with_reducible first | exact HB.out | apply bA | apply bN | apply bD | refine bS ?_ GE315.out | refine bS ?_ GE316.out) | exact HB.out)) hb)
          have n4_ := A0_ (hbox)
          have n5_ := A0_ ((by rw [hg]; exact (bZ (by repeat (first | (with_reducible first | exact HB.out | apply bA | apply bN | apply bD | refine bS ?_ GE315.out | refine bS ?_ GE316.out) | exact HB.out))) : w.heap.size ≤ gb323))
          have n6_ := A0_ ((by rw [hg]; exact (bZ (by repeat (first | (with_reducible first | exact HB.out | apply bA | apply bN | apply bD | refine bS ?_ GE315.out | refine bS ?_ GE316.out) | exact HB.out))) : w.heap.size ≤ gb323))
          have n7_ := A0_ ((by rw [hg]; exact Nat.ne_of_lt (kL (g := gb315) (o := .cells #[.slice A0_0 l0_0.length c0_0, .slice A0_1 l0_1.length c0_1] 29 (0, 0)) (by (with_reducible repeat (first | refine kN ?_ _ | refine kD ?_ | refine kA ?_ _)); exact BK315.out)) : gb315 ≠ gb323))
          have n8_ := A0_ ((by rw [hg]; exact Nat.ne_of_gt (kL (g := gb315) (o := .cells #[.slice A0_0 l0_0.length c0_0, .slice A0_1 l0_1.length c0_1] 29 (0, 0)) (by (with_reducible repeat (first | refine kN ?_ _ | refine kD ?_ | refine kA ?_ _)); exact BK315.out)) : gb323 ≠ gb315))
          have n9_ := A0_ ((by rw [hg]; exact Nat.ne_of_lt (kL (g := gb316) (o := .cells #[.slice none 0 0, .slice none 0 0] 29 (0, 0)) (by (with_reducible repeat (first | refine kN ?_ _ | refine kD ?_ | refine kA ?_ _)); exact BK316.out)) : gb316 ≠ gb323))
          have n10_ := A0_ ((by rw [hg]; exact Nat.ne_of_gt (kL (g := gb316) (o := .cells #[.slice none 0 0, .slice none 0 0] 29 (0, 0)) (by (with_reducible repeat (first | refine kN ?_ _ | refine kD ?_ | refine kA ?_ _)); exact BK316.out)) : gb323 ≠ gb316))
          clear HO322
          clear BK315
          clear BK316
          clear HB
          have HO322 := n0_
          have BK315 := n1_
          have BK316 := n2_
          have HB := n3_
          have BK323 := n4_
          have GW323 := n5_
          have GE323 := n6_
          have NB315_323 := n7_
          have NB323_315 := n8_
          have NB316_323 := n9_
          have NB323_316 := n10_
          clear n0_ n1_ n2_ n3_ n4_ n5_ n6_ n7_ n8_ n9_ n10_
          clear hb hbox hg
          refine hK.out _ _ ⟨(kC BK315.out 0).trans rfl, (kC BK315.out 1).trans rfl⟩ (fun hHeld => ?_)
          clear hK K
          refine norm_ (a' := ?_) ?_ ?_
          rotate_left
          ·show Act.put _ (some 7) _ = _
           simp only [Act.put, List.setIfInBounds_toArray, List.set_cons_zero, List.set_cons_succ, i64_w, i32_w]
           rfl
          exact norm_ (by first | (simp only [putAll, Act.put, List.setIfInBounds_toArray, List.set_cons_zero, List.set_cons_succ]; done) | (simp only [putAll, Act.put, List.setIfInBounds_toArray, List.set_cons_zero, List.set_cons_succ]; rfl)) (hJ11_13 (v321, gb323) _ ⟨hHeld, (by (with_reducible repeat (first | apply rA | apply rN | apply rD)); exact HO322.out), (by (with_reducible repeat (first | refine kN ?_ _ | refine kD ?_ | refine kA ?_ _)); exact BK315.out), (by (with_reducible repeat (first | refine kN ?_ _ | refine kD ?_ | refine kA ?_ _)); exact BK316.out), (by (with_reducible repeat (first | refine kN ?_ _ | refine kD ?_ | refine kA ?_ _)); exact BK323.out), GW323.out, GE323.out, NB315_323.out, NB323_315.out, NB316_323.out, NB323_316.out, (by repeat (first | (with_reducible first | exact HB.out | apply bA | apply bN | apply bD | refine bS ?_ GE315.out | refine bS ?_ GE316.out | refine bS ?_ GE323.out) | exact HB.out))⟩)
       ·skip
        rintro v318 w12 ⟨hS_, h0_, h1_, h2_, h3_⟩
        have n0_ : Aside0 (Kd.R (Kd.int .i64) 3 w12 w.heap.size (fun _ => True) v318 y317) := ⟨h0_⟩
        have n1_ : Aside0 (w12.heap[gb315]? = some (.cells #[.slice A0_0 l0_0.length c0_0, .slice A0_1 l0_1.length c0_1] 29 (0, 0))) := ⟨h1_⟩
        have n2_ : Aside0 (w12.heap[gb316]? = some (.cells #[.slice none 0 0, .slice none 0 0] 29 (0, 0))) := ⟨h2_⟩
        have n3_ : Aside0 (Below w.heap.size w w12) := ⟨h3_⟩
        clear BK315
        clear BK316
        clear HB
        clear h0_ h1_ h2_ h3_
        have HO319 := n0_
        have BK315 := n1_
        have BK316 := n2_
        have HB := n3_
        clear n0_ n1_ n2_ n3_
        have hHeld : w12.cell? ⟨gb315, 0, none⟩ = some (.slice A0_0 l0_0.length c0_0) ∧ w12.cell? ⟨gb315, 1, none⟩ = some (.slice A0_1 l0_1.length c0_1) := hS_
        refine norm_ (a' := ?_) ?_ ?_
        rotate_left
        ·simp only [putAll, Act.put, List.setIfInBounds_toArray, List.set_cons_zero, List.set_cons_succ]
         rfl
        refine two_ (i := 11) (j := 13) (Ni := some 23) (Nj := some 7) #[true, true, true, true, true, true, true, true, true, true, true, true, false, false, false] #[true, true, true, true, true, true, true, true, true, true, true, false, false, true, false] rfl rfl rfl rfl (two_of HT_.out (by kernel_rfl)) (by decide) (by decide) (fun K hK => ?_) (fun K hK => ?_)
        ·skip
         refine Kd.R_make_step (Kd.int .i64) _ 3 (by rfl) (N := 23) rfl 22 _ _ rfl ji4 rfl rfl Try.underlying22 (.int .i64 0) 8 info3 rfl (by decide) (by omega) 0 (ok := fun _ => True) (okp := fun _ => True) rfl (fun _ hk => hk) trivial (oD (by assumption)) (Nat.le_trans (Nat.mul_le_mul_right _ (oD (by assumption) : ji4.toNat ≤ 35184372088832)) (by omega)) (Below.refl _ _) (Nat.le_refl _) ?_
         intro v321 w13 ho14 hb hg_ hnew_
         clear hg_ hnew_
         (first | rw [← Ny320.out] at ho14 | (simp only [Int.reduceToNat] at ho14; rw [← Ny320.out] at ho14))
         have n0_ := A0_ (Kd.R_elder' (by (with_reducible repeat (first | apply rA | apply rN | apply rD)); exact HO319.out) (Kd.R_base ho14) hb)
         have n1_ := A0_ (rL (Kd.R_new' ho14 (rX (by (with_reducible repeat (first | apply rA | apply rN | apply rD)); exact HO319.out))) (bZ (by repeat (first | (with_reducible first | exact HB.out | apply bA | apply bN | apply bD | refine bS ?_ GE315.out | refine bS ?_ GE316.out) | exact HB.out))))
         have n2_ := A0_ (kB (g := gb315) (o := .cells #[.slice A0_0 l0_0.length c0_0, .slice A0_1 l0_1.length c0_1] 29 (0, 0)) (by (with_reducible repeat (first | refine kN ?_ _ | refine kD ?_ | refine kA ?_ _)); exact BK315.out) hb)
         have n3_ := A0_ (kB (g := gb316) (o := .cells #[.slice none 0 0, .slice none 0 0] 29 (0, 0)) (by (with_reducible repeat (first | refine kN ?_ _ | refine kD ?_ | refine kA ?_ _)); exact BK316.out) hb)
         have n4_ := A0_ (bT (by repeat (first | (with_reducible first | exact HB.out | apply bA | apply bN | apply bD | refine bS ?_ GE315.out | refine bS ?_ GE316.out) | exact HB.out)) hb)
         clear HO319
         clear BK315
         clear BK316
         clear HB
         have HO319 := n0_
         have HO322 := n1_
         have BK315 := n2_
         have BK316 := n3_
         have HB := n4_
         clear n0_ n1_ n2_ n3_ n4_
         clear hb ho14
         obtain ⟨Ao15, co15, eo15⟩ := rS HO322.out
         (first | subst eo15 | (injection eo15 with f1_ f2_ f3_; have f4_ := f1_.symm; have f5_ := f3_.symm; clear f1_ f2_ f3_; subst f4_; subst f5_))
         obtain ⟨Ao16, co16, eo16⟩ := rS HO319.out
         (first | subst eo16 | (injection eo16 with f1_ f2_ f3_; have f4_ := f1_.symm; have f5_ := f3_.symm; clear f1_ f2_ f3_; subst f4_; subst f5_))
         refine hK.out _ _ ⟨(kC BK315.out 0).trans rfl, (kC BK315.out 1).trans rfl⟩ (fun hHeld => ?_)
         clear hK K
         refine norm_ (a' := ?_) ?_ ?_
         rotate_left
         ·show Act.put _ (some 23) _ = _
          simp only [Act.put, List.setIfInBounds_toArray, List.set_cons_zero, List.set_cons_succ, i64_w, i32_w]
          rfl
         refine pure_ (i := 12) (N := some 24) (v := ?_) (a' := ?_) #[true, true, true, true, true, true, true, true, true, true, true, true, true, false, false] rfl rfl (any_of HT_.out (by kernel_rfl)) (fun _ _ _ h => h) (Or.inl ⟨by rfl, ?_⟩) ?_ ?_
         rotate_left
         ·intro w'
          go_simp
          with_reducible rfl
         rotate_left
         ·simp only [Act.put, List.setIfInBounds_toArray, List.set_cons_zero, List.set_cons_succ, i64_w, i32_w]
          rfl
         exact norm_ (by first | (simp only [putAll, Act.put, List.setIfInBounds_toArray, List.set_cons_zero, List.set_cons_succ]; done) | (simp only [putAll, Act.put, List.setIfInBounds_toArray, List.set_cons_zero, List.set_cons_succ]; rfl)) (hJ5_11 (.slice Ao16 y317.length co16, .slice Ao15 y320.length co15) _ ⟨hHeld, (by (with_reducible repeat (first | apply rA | apply rN | apply rD)); exact rM HO319.out (fun _ hk => hk.2)), (by (with_reducible repeat (first | apply rA | apply rN | apply rD)); exact rM HO322.out (fun _ hk => hk.2)), (by (with_reducible repeat (first | refine kN ?_ _ | refine kD ?_ | refine kA ?_ _)); exact BK315.out), (by (with_reducible repeat (first | refine kN ?_ _ | refine kD ?_ | refine kA ?_ _)); exact BK316.out), (by repeat (first | (with_reducible first | exact HB.out | apply bA | apply bN | apply bD | refine bS ?_ GE315.out | refine bS ?_ GE316.out) | exact HB.out))⟩)
        ·skip
         refine box_step ?hg (N := 7) ?hd (cs := #[.slice none 0 0, .slice none 0 0]) (t := 29) ?hr ?_; (case hd => rfl); (case hg => rfl); (case hr => first | (go_simp; done) | (go_simp; rfl))
         intro gb323 hg w13 hbox hb
         have n0_ := A0_ (rB (by (with_reducible repeat (first | apply rA | apply rN | apply rD)); exact HO319.out) hb)
         have n1_ := A0_ (kB (g := gb315) (o := .cells #[.slice A0_0 l0_0.length c0_0, .slice A0_1 l0_1.length c0_1] 29 (0, 0)) (by (with_reducible repeat (first | refine kN ?_ _ | refine kD ?_ | refine kA ?_ _)); exact BK315.out) hb)
         have n2_ := A0_ (kB (g := gb316) (o := .cells #[.slice none 0 0, .slice none 0 0] 29 (0, 0)) (by (with_reducible repeat (first | refine kN ?_ _ | refine kD ?_ | refine kA ?_ _)); exact BK316.out) hb)
         have n3_ := A0_ (bT (by repeat (first | (with_reducible first | exact HB.out | apply bA | apply bN | apply bD | refine bS ?_ GE315.out | refine bS ?_ GE316.out) | exact HB.out)) hb)
         have n4_ := A0_ (hbox)
         have n5_ := A0_ ((by rw [hg]; exact (bZ (by repeat (first | (with_reducible first | exact HB.out | apply bA | apply bN | apply bD | refine bS ?_ GE315.out | refine bS ?_ GE316.out) | exact HB.out))) : w.heap.size ≤ gb323))
         have n6_ := A0_ ((by rw [hg]; exact (bZ (by repeat (first | (with_reducible first | exact HB.out | apply bA | apply bN | apply bD | refine bS ?_ GE315.out | refine bS ?_ GE316.out) | exact HB.out))) : w.heap.size ≤ gb323))
         have n7_ := A0_ ((by rw [hg]; exact Nat.ne_of_lt (kL (g := gb315) (o := .cells #[.slice A0_0 l0_0.length c0_0, .slice A0_1 l0_1.length c0_1] 29 (0, 0)) (by (with_reducible repeat (first | refine kN ?_ _ | refine kD ?_ | refine kA ?_ _)); exact BK315.out)) : gb315 ≠ gb323))
         have n8_ := A0_ ((by rw [hg]; exact Nat.ne_of_gt (kL (g := gb315) (o := .cells #[.slice A0_0 l0_0.length c0_0, .slice A0_1 l0_1.length c0_1] 29 (0, 0)) (by (with_reducible repeat (first | refine kN ?_ _ | refine kD ?_ | refine kA ?_ _)); exact BK315.out)) : gb323 ≠ gb315))
         have n9_ := A0_ ((by rw [hg]; exact Nat.ne_of_lt (kL (g := gb316) (o := .cells #[.slice none 0 0, .slice none 0 0] 29 (0, 0)) (by (with_reducible repeat (first | refine kN ?_ _ | refine kD ?_ | refine kA ?_ _)); exact BK316.out)) : gb316 ≠ gb323))
         have n10_ := A0_ ((by rw [hg]; exact Nat.ne_of_gt (kL (g := gb316) (o := .cells #[.slice none 0 0, .slice none 0 0] 29 (0, 0)) (by (with_reducible repeat (first | refine kN ?_ _ | refine kD ?_ | refine kA ?_ _)); exact BK316.out)) : gb323 ≠ gb316))
         clear HO319
         clear BK315
         clear BK316
         clear HB
         have HO319 := n0_
         have BK315 := n1_
         have BK316 := n2_
         have HB := n3_
         have BK323 := n4_
         have GW323 := n5_
         have GE323 := n6_
         have NB315_323 := n7_
         have NB323_315 := n8_
         have NB316_323 := n9_
         have NB323_316 := n10_
         clear n0_ n1_ n2_ n3_ n4_ n5_ n6_ n7_ n8_ n9_ n10_
         clear hb hbox hg
         refine hK.out _ _ ⟨(kC BK315.out 0).trans rfl, (kC BK315.out 1).trans rfl⟩ (fun hHeld => ?_)
         clear hK K
         refine norm_ (a' := ?_) ?_ ?_
         rotate_left
         ·show Act.put _ (some 7) _ = _
          simp only [Act.put, List.setIfInBounds_toArray, List.set_cons_zero, List.set_cons_succ, i64_w, i32_w]
          rfl
         exact norm_ (by first | (simp only [putAll, Act.put, List.setIfInBounds_toArray, List.set_cons_zero, List.set_cons_succ]; done) | (simp only [putAll, Act.put, List.setIfInBounds_toArray, List.set_cons_zero, List.set_cons_succ]; rfl)) (hJ5_13 (v318, gb323) _ ⟨hHeld, (by (with_reducible repeat (first | apply rA | apply rN | apply rD)); exact HO319.out), (by (with_reducible repeat (first | refine kN ?_ _ | refine kD ?_ | refine kA ?_ _)); exact BK315.out), (by (with_reducible repeat (first | refine kN ?_ _ | refine kD ?_ | refine kA ?_ _)); exact BK316.out), (by (with_reducible repeat (first | refine kN ?_ _ | refine kD ?_ | refine kA ?_ _)); exact BK323.out), GW323.out, GE323.out, NB315_323.out, NB323_315.out, NB316_323.out, NB323_316.out, (by repeat (first | (with_reducible first | exact HB.out | apply bA | apply bN | apply bD | refine bS ?_ GE315.out | refine bS ?_ GE316.out | refine bS ?_ GE323.out) | exact HB.out))⟩)
      ·skip
       rintro ⟨v321, gb323⟩ w13 ⟨hS_, h0_, h1_, h2_, h3_, h4_, h5_, h6_, h7_, h8_, h9_, h10_⟩
       have n0_ : Aside0 (Kd.R (Kd.int .i64) 3 w13 w.heap.size (fun _ => True) v321 y320) := ⟨h0_⟩
       have n1_ : Aside0 (w13.heap[gb315]? = some (.cells #[.slice A0_0 l0_0.length c0_0, .slice A0_1 l0_1.length c0_1] 29 (0, 0))) := ⟨h1_⟩
       have n2_ : Aside0 (w13.heap[gb316]? = some (.cells #[.slice none 0 0, .slice none 0 0] 29 (0, 0))) := ⟨h2_⟩
       have n3_ : Aside0 (w13.heap[gb323]? = some (.cells #[.slice none 0 0, .slice none 0 0] 29 (0, 0))) := ⟨h3_⟩
       have n4_ : Aside0 (w.heap.size ≤ gb323) := ⟨h4_⟩
       have n5_ : Aside0 (w.heap.size ≤ gb323) := ⟨h5_⟩
       have n6_ : Aside0 (gb315 ≠ gb323) := ⟨h6_⟩
       have n7_ : Aside0 (gb323 ≠ gb315) := ⟨h7_⟩
       have n8_ : Aside0 (gb316 ≠ gb323) := ⟨h8_⟩
       have n9_ : Aside0 (gb323 ≠ gb316) := ⟨h9_⟩
       have n10_ : Aside0 (Below w.heap.size w w13) := ⟨h10_⟩
       clear BK315
       clear BK316
       clear HB
       clear h0_ h1_ h2_ h3_ h4_ h5_ h6_ h7_ h8_ h9_ h10_
       have HO322 := n0_
       have BK315 := n1_
       have BK316 := n2_
       have BK323 := n3_
       have GW323 := n4_
       have GE323 := n5_
       have NB315_323 := n6_
       have NB323_315 := n7_
       have NB316_323 := n8_
       have NB323_316 := n9_
       have HB := n10_
       clear n0_ n1_ n2_ n3_ n4_ n5_ n6_ n7_ n8_ n9_ n10_
       have hHeld : w13.cell? ⟨gb315, 0, none⟩ = some (.slice A0_0 l0_0.length c0_0) ∧ w13.cell? ⟨gb315, 1, none⟩ = some (.slice A0_1 l0_1.length c0_1) := hS_
       refine norm_ (a' := ?_) ?_ ?_
       rotate_left
       ·simp only [putAll, Act.put, List.setIfInBounds_toArray, List.set_cons_zero, List.set_cons_succ]
        rfl
       refine one_ (i := 5) (N := some 17) #[true, true, true, true, true, true, true, true, true, true, true, true, false, true, false] rfl rfl (one_of HT_.out (by kernel_rfl)) (by decide) (fun K hK => ?_)
       refine Kd.R_make_step (Kd.int .i64) _ 3 (by rfl) (N := 17) rfl 22 _ _ rfl ji4 rfl rfl Try.underlying22 (.int .i64 0) 8 info3 rfl (by decide) (by omega) 0 (ok := fun _ => True) (okp := fun _ => True) rfl (fun _ hk => hk) trivial (oD (by assumption)) (Nat.le_trans (Nat.mul_le_mul_right _ (oD (by assumption) : ji4.toNat ≤ 35184372088832)) (by omega)) (Below.refl _ _) (Nat.le_refl _) ?_
       intro v318 w14 ho15 hb hg_ hnew_
       clear hg_ hnew_
       (first | rw [← Ny317.out] at ho15 | (simp only [Int.reduceToNat] at ho15; rw [← Ny317.out] at ho15))
       have n0_ := A0_ (Kd.R_elder' (by (with_reducible repeat (first | apply rA | apply rN | apply rD)); exact HO322.out) (Kd.R_base ho15) hb)
       have n1_ := A0_ (rL (Kd.R_new' ho15 (rX (by (with_reducible repeat (first | apply rA | apply rN | apply rD)); exact HO322.out))) (bZ (by repeat (first | (with_reducible first | exact HB.out | apply bA | apply bN | apply bD | refine bS ?_ GE315.out | refine bS ?_ GE316.out | refine bS ?_ GE323.out) | exact HB.out))))
       have n2_ := A0_ (kB (g := gb315) (o := .cells #[.slice A0_0 l0_0.length c0_0, .slice A0_1 l0_1.length c0_1] 29 (0, 0)) (by (with_reducible repeat (first | refine kN ?_ _ | refine kD ?_ | refine kA ?_ _)); exact BK315.out) hb)
       have n3_ := A0_ (kB (g := gb316) (o := .cells #[.slice none 0 0, .slice none 0 0] 29 (0, 0)) (by (with_reducible repeat (first | refine kN ?_ _ | refine kD ?_ | refine kA ?_ _)); exact BK316.out) hb)
       have n4_ := A0_ (kB (g := gb323) (o := .cells #[.slice none 0 0, .slice none 0 0] 29 (0, 0)) (by (with_reducible repeat (first | refine kN ?_ _ | refine kD ?_ | refine kA ?_ _)); exact BK323.out) hb)
       have n5_ := A0_ (bT (by repeat (first | (with_reducible first | exact HB.out | apply bA | apply bN | apply bD | refine bS ?_ GE315.out | refine bS ?_ GE316.out | refine bS ?_ GE323.out) | exact HB.out)) hb)
       clear HO322
       clear BK315
       clear BK316
       clear BK323
       clear HB
       have HO322 := n0_
       have HO319 := n1_
       have BK315 := n2_
       have BK316 := n3_
       have BK323 := n4_
       have HB := n5_
       clear n0_ n1_ n2_ n3_ n4_ n5_
       clear hb ho15
       obtain ⟨Ao16, co16, eo16⟩ := rS HO322.out
       (first | subst eo16 | (injection eo16 with f1_ f2_ f3_; have f4_ := f1_.symm; have f5_ := f3_.symm; clear f1_ f2_ f3_; subst f4_; subst f5_))
       obtain ⟨Ao17, co17, eo17⟩ := rS HO319.out
       (first | subst eo17 | (injection eo17 with f1_ f2_ f3_; have f4_ := f1_.symm; have f5_ := f3_.symm; clear f1_ f2_ f3_; subst f4_; subst f5_))
       refine hK.out _ _ ⟨(kC BK315.out 0).trans rfl, (kC BK315.out 1).trans rfl⟩ (fun hHeld => ?_)
       clear hK K
       refine norm_ (a' := ?_) ?_ ?_
       rotate_left
       ·show Act.put _ (some 17) _ = _
        simp only [Act.put, List.setIfInBounds_toArray, List.set_cons_zero, List.set_cons_succ, i64_w, i32_w]
        rfl
       refine pure_ (i := 12) (N := some 24) (v := ?_) (a' := ?_) #[true, true, true, true, true, true, true, true, true, true, true, true, true, true, false] rfl rfl (any_of HT_.out (by kernel_rfl)) (fun _ _ _ h => h) (Or.inl ⟨by rfl, ?_⟩) ?_ ?_
       rotate_left
       ·intro w'
        go_simp
        with_reducible rfl
       rotate_left
       ·simp only [Act.put, List.setIfInBounds_toArray, List.set_cons_zero, List.set_cons_succ, i64_w, i32_w]
        rfl
       exact norm_ (by first | (simp only [putAll, Act.put, List.setIfInBounds_toArray, List.set_cons_zero, List.set_cons_succ]; done) | (simp only [putAll, Act.put, List.setIfInBounds_toArray, List.set_cons_zero, List.set_cons_succ]; rfl)) (hJ5_11_13 (.slice Ao17 y317.length co17, .slice Ao16 y320.length co16, gb323) _ ⟨hHeld, (by (with_reducible repeat (first | apply rA | apply rN | apply rD)); exact rM HO319.out (fun _ hk => hk.2)), (by (with_reducible repeat (first | apply rA | apply rN | apply rD)); exact rM HO322.out (fun _ hk => hk.2)), (by (with_reducible repeat (first | refine kN ?_ _ | refine kD ?_ | refine kA ?_ _)); exact BK315.out), (by (with_reducible repeat (first | refine kN ?_ _ | refine kD ?_ | refine kA ?_ _)); exact BK316.out), (by (with_reducible repeat (first | refine kN ?_ _ | refine kD ?_ | refine kA ?_ _)); exact BK323.out), GW323.out, GE323.out, NB315_323.out, NB323_315.out, NB316_323.out, NB323_316.out, (by repeat (first | (with_reducible first | exact HB.out | apply bA | apply bN | apply bD | refine bS ?_ GE315.out | refine bS ?_ GE316.out | refine bS ?_ GE323.out) | exact HB.out))⟩)
     ·skip
      rintro ⟨v318, gb323⟩ w13 ⟨hS_, h0_, h1_, h2_, h3_, h4_, h5_, h6_, h7_, h8_, h9_, h10_⟩
      have n0_ : Aside0 (Kd.R (Kd.int .i64) 3 w13 w.heap.size (fun _ => True) v318 y317) := ⟨h0_⟩
      have n1_ : Aside0 (w13.heap[gb315]? = some (.cells #[.slice A0_0 l0_0.length c0_0, .slice A0_1 l0_1.length c0_1] 29 (0, 0))) := ⟨h1_⟩
      have n2_ : Aside0 (w13.heap[gb316]? = some (.cells #[.slice none 0 0, .slice none 0 0] 29 (0, 0))) := ⟨h2_⟩
      have n3_ : Aside0 (w13.heap[gb323]? = some (.cells #[.slice none 0 0, .slice none 0 0] 29 (0, 0))) := ⟨h3_⟩
      have n4_ : Aside0 (w.heap.size ≤ gb323) := ⟨h4_⟩
      have n5_ : Aside0 (w.heap.size ≤ gb323) := ⟨h5_⟩
      have n6_ : Aside0 (gb315 ≠ gb323) := ⟨h6_⟩
      have n7_ : Aside0 (gb323 ≠ gb315) := ⟨h7_⟩
      have n8_ : Aside0 (gb316 ≠ gb323) := ⟨h8_⟩
      have n9_ : Aside0 (gb323 ≠ gb316) := ⟨h9_⟩
      have n10_ : Aside0 (Below w.heap.size w w13) := ⟨h10_⟩
      clear BK315
      clear BK316
      clear HB
      clear h0_ h1_ h2_ h3_ h4_ h5_ h6_ h7_ h8_ h9_ h10_
      have HO319 := n0_
      have BK315 := n1_
      have BK316 := n2_
      have BK323 := n3_
      have GW323 := n4_
      have GE323 := n5_
      have NB315_323 := n6_
      have NB323_315 := n7_
      have NB316_323 := n8_
      have NB323_316 := n9_
      have HB := n10_
      clear n0_ n1_ n2_ n3_ n4_ n5_ n6_ n7_ n8_ n9_ n10_
      have hHeld : w13.cell? ⟨gb315, 0, none⟩ = some (.slice A0_0 l0_0.length c0_0) ∧ w13.cell? ⟨gb315, 1, none⟩ = some (.slice A0_1 l0_1.length c0_1) := hS_
      refine norm_ (a' := ?_) ?_ ?_
      rotate_left
      ·simp only [putAll, Act.put, List.setIfInBounds_toArray, List.set_cons_zero, List.set_cons_succ]
       rfl
      refine one_ (i := 11) (N := some 23) #[true, true, true, true, true, true, true, true, true, true, true, true, false, true, false] rfl rfl (one_of HT_.out (by kernel_rfl)) (by decide) (fun K hK => ?_)
      refine Kd.R_make_step (Kd.int .i64) _ 3 (by rfl) (N := 23) rfl 22 _ _ rfl ji4 rfl rfl Try.underlying22 (.int .i64 0) 8 info3 rfl (by decide) (by omega) 0 (ok := fun _ => True) (okp := fun _ => True) rfl (fun _ hk => hk) trivial (oD (by assumption)) (Nat.le_trans (Nat.mul_le_mul_right _ (oD (by assumption) : ji4.toNat ≤ 35184372088832)) (by omega)) (Below.refl _ _) (Nat.le_refl _) ?_
      intro v321 w14 ho15 hb hg_ hnew_
      clear hg_ hnew_
      (first | rw [← Ny320.out] at ho15 | (simp only [Int.reduceToNat] at ho15; rw [← Ny320.out] at ho15))
      have n0_ := A0_ (Kd.R_elder' (by (with_reducible repeat (first | apply rA | apply rN | apply rD)); exact HO319.out) (Kd.R_base ho15) hb)
      have n1_ := A0_ (rL (Kd.R_new' ho15 (rX (by (with_reducible repeat (first | apply rA | apply rN | apply rD)); exact HO319.out))) (bZ (by repeat (first | (with_reducible first | exact HB.out | apply bA | apply bN | apply bD | refine bS ?_ GE315.out | refine bS ?_ GE316.out | refine bS ?_ GE323.out) | exact HB.out))))
      have n2_ := A0_ (kB (g := gb315) (o := .cells #[.slice A0_0 l0_0.length c0_0, .slice A0_1 l0_1.length c0_1] 29 (0, 0)) (by (with_reducible repeat (first | refine kN ?_ _ | refine kD ?_ | refine kA ?_ _)); exact BK315.out) hb)
      have n3_ := A0_ (kB (g := gb316) (o := .cells #[.slice none 0 0, .slice none 0 0] 29 (0, 0)) (by (with_reducible repeat (first | refine kN ?_ _ | refine kD ?_ | refine kA ?_ _)); exact BK316.out) hb)
      have n4_ := A0_ (kB (g := gb323) (o := .cells #[.slice none 0 0, .slice none 0 0] 29 (0, 0)) (by (with_reducible repeat (first | refine kN ?_ _ | refine kD ?_ | refine kA ?_ _)); exact BK323.out) hb)
      have n5_ := A0_ (bT (by repeat (first | (with_reducible first | exact HB.out | apply bA | apply bN | apply bD | refine bS ?_ GE315.out | refine bS ?_ GE316.out | refine bS ?_ GE323.out) | exact HB.out)) hb)
      clear HO319
      clear BK315
      clear BK316
      clear BK323
      clear HB
      have HO319 := n0_
      have HO322 := n1_
      have BK315 := n2_
      have BK316 := n3_
      have BK323 := n4_
      have HB := n5_
      clear n0_ n1_ n2_ n3_ n4_ n5_
      clear hb ho15
      obtain ⟨Ao16, co16, eo16⟩ := rS HO322.out
      (first | subst eo16 | (injection eo16 with f1_ f2_ f3_; have f4_ := f1_.symm; have f5_ := f3_.symm; clear f1_ f2_ f3_; subst f4_; subst f5_))
      obtain ⟨Ao17, co17, eo17⟩ := rS HO319.out
      (first | subst eo17 | (injection eo17 with f1_ f2_ f3_; have f4_ := f1_.symm; have f5_ := f3_.symm; clear f1_ f2_ f3_; subst f4_; subst f5_))
      refine hK.out _ _ ⟨(kC BK315.out 0).trans rfl, (kC BK315.out 1).trans rfl⟩ (fun hHeld => ?_)
      clear hK K
      refine norm_ (a' := ?_) ?_ ?_
      rotate_left
      ·show Act.put _ (some 23) _ = _
       simp only [Act.put, List.setIfInBounds_toArray, List.set_cons_zero, List.set_cons_succ, i64_w, i32_w]
       rfl
      refine pure_ (i := 12) (N := some 24) (v := ?_) (a' := ?_) #[true, true, true, true, true, true, true, true, true, true, true, true, true, true, false] rfl rfl (any_of HT_.out (by kernel_rfl)) (fun _ _ _ h => h) (Or.inl ⟨by rfl, ?_⟩) ?_ ?_
      rotate_left
      ·intro w'
       go_simp
       with_reducible rfl
      rotate_left
      ·simp only [Act.put, List.setIfInBounds_toArray, List.set_cons_zero, List.set_cons_succ, i64_w, i32_w]
       rfl
      exact norm_ (by first | (simp only [putAll, Act.put, List.setIfInBounds_toArray, List.set_cons_zero, List.set_cons_succ]; done) | (simp only [putAll, Act.put, List.setIfInBounds_toArray, List.set_cons_zero, List.set_cons_succ]; rfl)) (hJ5_11_13 (.slice Ao17 y317.length co17, .slice Ao16 y320.length co16, gb323) _ ⟨hHeld, (by (with_reducible repeat (first | apply rA | apply rN | apply rD)); exact rM HO319.out (fun _ hk => hk.2)), (by (with_reducible repeat (first | apply rA | apply rN | apply rD)); exact rM HO322.out (fun _ hk => hk.2)), (by (with_reducible repeat (first | refine kN ?_ _ | refine kD ?_ | refine kA ?_ _)); exact BK315.out), (by (with_reducible repeat (first | refine kN ?_ _ | refine kD ?_ | refine kA ?_ _)); exact BK316.out), (by (with_reducible repeat (first | refine kN ?_ _ | refine kD ?_ | refine kA ?_ _)); exact BK323.out), GW323.out, GE323.out, NB315_323.out, NB323_315.out, NB316_323.out, NB323_316.out, (by repeat (first | (with_reducible first | exact HB.out | apply bA | apply bN | apply bD | refine bS ?_ GE315.out | refine bS ?_ GE316.out | refine bS ?_ GE323.out) | exact HB.out))⟩)
    ·skip
     rintro ⟨v318, v321⟩ w16 ⟨hS_, h0_, h1_, h2_, h3_, h4_⟩
     have n0_ : Aside0 (Kd.R (Kd.int .i64) 3 w16 w.heap.size (fun k_ => some k_ ≠ (v321 : Value).ownBlock) v318 y317) := ⟨h0_⟩
     have n1_ : Aside0 (Kd.R (Kd.int .i64) 3 w16 w.heap.size (fun k_ => some k_ ≠ (v318 : Value).ownBlock) v321 y320) := ⟨h1_⟩
     have n2_ : Aside0 (w16.heap[gb315]? = some (.cells #[.slice A0_0 l0_0.length c0_0, .slice A0_1 l0_1.length c0_1] 29 (0, 0))) := ⟨h2_⟩
     have n3_ : Aside0 (w16.heap[gb316]? = some (.cells #[.slice none 0 0, .slice none 0 0] 29 (0, 0))) := ⟨h3_⟩
     have n4_ : Aside0 (Below w.heap.size w w16) := ⟨h4_⟩
     clear BK315
     clear BK316
     clear HB
     clear h0_ h1_ h2_ h3_ h4_
     have HO319 := n0_
     have HO322 := n1_
     have BK315 := n2_
     have BK316 := n3_
     have HB := n4_
     clear n0_ n1_ n2_ n3_ n4_
     have hHeld : w16.cell? ⟨gb315, 0, none⟩ = some (.slice A0_0 l0_0.length c0_0) ∧ w16.cell? ⟨gb315, 1, none⟩ = some (.slice A0_1 l0_1.length c0_1) := hS_
     obtain ⟨Ao17, co17, eo17⟩ := rS HO322.out
     (first | subst eo17 | (injection eo17 with f1_ f2_ f3_; have f4_ := f1_.symm; have f5_ := f3_.symm; clear f1_ f2_ f3_; subst f4_; subst f5_))
     obtain ⟨Ao18, co18, eo18⟩ := rS HO319.out
     (first | subst eo18 | (injection eo18 with f1_ f2_ f3_; have f4_ := f1_.symm; have f5_ := f3_.symm; clear f1_ f2_ f3_; subst f4_; subst f5_))
     refine norm_ (a' := ?_) ?_ ?_
     rotate_left
     ·simp only [putAll, Act.put, List.setIfInBounds_toArray, List.set_cons_zero, List.set_cons_succ]
      rfl
     refine one_ (i := 13) (N := some 7) #[true, true, true, true, true, true, true, true, true, true, true, true, true, true, false] rfl rfl (one_of HT_.out (by kernel_rfl)) (by decide) (fun K hK => ?_)
     refine box_step ?hg (N := 7) ?hd (cs := #[.slice none 0 0, .slice none 0 0]) (t := 29) ?hr ?_; (case hd => rfl); (case hg => rfl); (case hr => first | (go_simp; done) | (go_simp; rfl))
     intro gb323 hg w19 hbox hb
     have n0_ := A0_ (rB (by (with_reducible repeat (first | apply rA | apply rN | apply rD)); exact HO319.out) hb)
     have n1_ := A0_ (rB (by (with_reducible repeat (first | apply rA | apply rN | apply rD)); exact HO322.out) hb)
     have n2_ := A0_ (kB (g := gb315) (o := .cells #[.slice A0_0 l0_0.length c0_0, .slice A0_1 l0_1.length c0_1] 29 (0, 0)) (by (with_reducible repeat (first | refine kN ?_ _ | refine kD ?_ | refine kA ?_ _)); exact BK315.out) hb)
     have n3_ := A0_ (kB (g := gb316) (o := .cells #[.slice none 0 0, .slice none 0 0] 29 (0, 0)) (by (with_reducible repeat (first | refine kN ?_ _ | refine kD ?_ | refine kA ?_ _)); exact BK316.out) hb)
     have n4_ := A0_ (bT (by repeat (first | (with_reducible first | exact HB.out | apply bA | apply bN | apply bD | refine bS ?_ GE315.out | refine bS ?_ GE316.out) | exact HB.out)) hb)
     have n5_ := A0_ (hbox)
     have n6_ := A0_ ((by rw [hg]; exact (bZ (by repeat (first | (with_reducible first | exact HB.out | apply bA | apply bN | apply bD | refine bS ?_ GE315.out | refine bS ?_ GE316.out) | exact HB.out))) : w.heap.size ≤ gb323))
     have n7_ := A0_ ((by rw [hg]; exact (bZ (by repeat (first | (with_reducible first | exact HB.out | apply bA | apply bN | apply bD | refine bS ?_ GE315.out | refine bS ?_ GE316.out) | exact HB.out))) : w.heap.size ≤ gb323))
     have n8_ := A0_ ((by rw [hg]; exact Nat.ne_of_lt (kL (g := gb315) (o := .cells #[.slice A0_0 l0_0.length c0_0, .slice A0_1 l0_1.length c0_1] 29 (0, 0)) (by (with_reducible repeat (first | refine kN ?_ _ | refine kD ?_ | refine kA ?_ _)); exact BK315.out)) : gb315 ≠ gb323))
     have n9_ := A0_ ((by rw [hg]; exact Nat.ne_of_gt (kL (g := gb315) (o := .cells #[.slice A0_0 l0_0.length c0_0, .slice A0_1 l0_1.length c0_1] 29 (0, 0)) (by (with_reducible repeat (first | refine kN ?_ _ | refine kD ?_ | refine kA ?_ _)); exact BK315.out)) : gb323 ≠ gb315))
     have n10_ := A0_ ((by rw [hg]; exact Nat.ne_of_lt (kL (g := gb316) (o := .cells #[.slice none 0 0, .slice none 0 0] 29 (0, 0)) (by (with_reducible repeat (first | refine kN ?_ _ | refine kD ?_ | refine kA ?_ _)); exact BK316.out)) : gb316 ≠ gb323))
     have n11_ := A0_ ((by rw [hg]; exact Nat.ne_of_gt (kL (g := gb316) (o := .cells #[.slice none 0 0, .slice none 0 0] 29 (0, 0)) (by (with_reducible repeat (first | refine kN ?_ _ | refine kD ?_ | refine kA ?_ _)); exact BK316.out)) : gb323 ≠ gb316))
     clear HO319
     clear HO322
     clear BK315
     clear BK316
     clear HB
     have HO319 := n0_
     have HO322 := n1_
     have BK315 := n2_
     have BK316 := n3_
     have HB := n4_
     have BK323 := n5_
     have GW323 := n6_
     have GE323 := n7_
     have NB315_323 := n8_
     have NB323_315 := n9_
     have NB316_323 := n10_
     have NB323_316 := n11_
     clear n0_ n1_ n2_ n3_ n4_ n5_ n6_ n7_ n8_ n9_ n10_ n11_
     clear hb hbox hg
     refine hK.out _ _ ⟨(kC BK315.out 0).trans rfl, (kC BK315.out 1).trans rfl⟩ (fun hHeld => ?_)
     clear hK K
     refine norm_ (a' := ?_) ?_ ?_
     rotate_left
     ·show Act.put _ (some 7) _ = _
      simp only [Act.put, List.setIfInBounds_toArray, List.set_cons_zero, List.set_cons_succ, i64_w, i32_w]
      rfl
     exact norm_ (by first | (simp only [putAll, Act.put, List.setIfInBounds_toArray, List.set_cons_zero, List.set_cons_succ]; done) | (simp only [putAll, Act.put, List.setIfInBounds_toArray, List.set_cons_zero, List.set_cons_succ]; rfl)) (hJ5_11_13 (.slice Ao18 y317.length co18, .slice Ao17 y320.length co17, gb323) _ ⟨hHeld, (by (with_reducible repeat (first | apply rA | apply rN | apply rD)); exact HO319.out), (by (with_reducible repeat (first | apply rA | apply rN | apply rD)); exact HO322.out), (by (with_reducible repeat (first | refine kN ?_ _ | refine kD ?_ | refine kA ?_ _)); exact BK315.out), (by (with_reducible repeat (first | refine kN ?_ _ | refine kD ?_ | refine kA ?_ _)); exact BK316.out), (by (with_reducible repeat (first | refine kN ?_ _ | refine kD ?_ | refine kA ?_ _)); exact BK323.out), GW323.out, GE323.out, NB315_323.out, NB323_315.out, NB316_323.out, NB323_316.out, (by repeat (first | (with_reducible first | exact HB.out | apply bA | apply bN | apply bD | refine bS ?_ GE315.out | refine bS ?_ GE316.out | refine bS ?_ GE323.out) | exact HB.out))⟩)
   rintro ⟨v318, v321, gb323⟩ w17 ⟨hS_, h0_, h1_, h2_, h3_, h4_, h5_, h6_, h7_, h8_, h9_, h10_, h11_⟩
   have n0_ : Aside0 (Kd.R (Kd.int .i64) 3 w17 w.heap.size (fun k_ => some k_ ≠ (v321 : Value).ownBlock) v318 y317) := ⟨h0_⟩
   have n1_ : Aside0 (Kd.R (Kd.int .i64) 3 w17 w.heap.size (fun k_ => some k_ ≠ (v318 : Value).ownBlock) v321 y320) := ⟨h1_⟩
   have n2_ : Aside0 (w17.heap[gb315]? = some (.cells #[.slice A0_0 l0_0.length c0_0, .slice A0_1 l0_1.length c0_1] 29 (0, 0))) := ⟨h2_⟩
   have n3_ : Aside0 (w17.heap[gb316]? = some (.cells #[.slice none 0 0, .slice none 0 0] 29 (0, 0))) := ⟨h3_⟩
   have n4_ : Aside0 (w17.heap[gb323]? = some (.cells #[.slice none 0 0, .slice none 0 0] 29 (0, 0))) := ⟨h4_⟩
   have n5_ : Aside0 (w.heap.size ≤ gb323) := ⟨h5_⟩
   have n6_ : Aside0 (w.heap.size ≤ gb323) := ⟨h6_⟩
   have n7_ : Aside0 (gb315 ≠ gb323) := ⟨h7_⟩
   have n8_ : Aside0 (gb323 ≠ gb315) := ⟨h8_⟩
   have n9_ : Aside0 (gb316 ≠ gb323) := ⟨h9_⟩
   have n10_ : Aside0 (gb323 ≠ gb316) := ⟨h10_⟩
   have n11_ : Aside0 (Below w.heap.size w w17) := ⟨h11_⟩
   clear BK315
   clear BK316
   clear HB
   clear h0_ h1_ h2_ h3_ h4_ h5_ h6_ h7_ h8_ h9_ h10_ h11_
   have HO319 := n0_
   have HO322 := n1_
   have BK315 := n2_
   have BK316 := n3_
   have BK323 := n4_
   have GW323 := n5_
   have GE323 := n6_
   have NB315_323 := n7_
   have NB323_315 := n8_
   have NB316_323 := n9_
   have NB323_316 := n10_
   have HB := n11_
   clear n0_ n1_ n2_ n3_ n4_ n5_ n6_ n7_ n8_ n9_ n10_ n11_
   have hHeld : w17.cell? ⟨gb315, 0, none⟩ = some (.slice A0_0 l0_0.length c0_0) ∧ w17.cell? ⟨gb315, 1, none⟩ = some (.slice A0_1 l0_1.length c0_1) := hS_
   obtain ⟨Ao18, co18, eo18⟩ := rS HO322.out
   (first | subst eo18 | (injection eo18 with f1_ f2_ f3_; have f4_ := f1_.symm; have f5_ := f3_.symm; clear f1_ f2_ f3_; subst f4_; subst f5_))
   obtain ⟨Ao19, co19, eo19⟩ := rS HO319.out
   (first | subst eo19 | (injection eo19 with f1_ f2_ f3_; have f4_ := f1_.symm; have f5_ := f3_.symm; clear f1_ f2_ f3_; subst f4_; subst f5_))
   refine norm_ (a' := ?_) ?_ ?_
   rotate_left
   ·simp only [putAll, Act.put, List.setIfInBounds_toArray, List.set_cons_zero, List.set_cons_succ]
    rfl
   refine one_ (i := 14) (N := none) #[true, true, true, true, true, true, true, true, true, true, true, true, true, true, true] rfl rfl (one_of HT_.out (by kernel_rfl)) (by decide) (fun K hK => ?_)
   have hs20 : w17.cell? ⟨gb323, 0, none⟩ = some (.slice none 0 0) := (kC BK323.out 0).trans rfl
   have hfs20 := kF BK323.out 0
   have hns20_0 := NB315_323.out
   have hns20_1 := NB316_323.out
   have hms20_0 := NB323_315.out
   have hms20_1 := NB323_316.out
   have hs21 : w17.cell? ⟨gb323, 1, none⟩ = some (.slice none 0 0) := (kC BK323.out 1).trans rfl
   have hfs21 := kF BK323.out 1
   have hns21_0 := NB315_323.out
   have hns21_1 := NB316_323.out
   have hms21_0 := NB323_315.out
   have hms21_1 := NB323_316.out
   refine skip_ (w1 := ?_) (by rfl) rfl ?_ ?_
   rotate_left
   ·go_simp
    rfl
   refine hK.out _ _ ⟨((cell_far (p := ⟨gb323, _, none⟩) NB315_323.out _).trans (((cell_far (p := ⟨gb323, _, none⟩) NB315_323.out _).trans (hHeld.1)))), ((cell_far (p := ⟨gb323, _, none⟩) NB315_323.out _).trans (((cell_far (p := ⟨gb323, _, none⟩) NB315_323.out _).trans (hHeld.2))))⟩ (fun hHeld => ?_)
   clear hK K
   refine done_ (done_of HT_.out (by kernel_rfl)) ?_
   have hnb22 := NB315_316.out
   have hnc22 := NB316_315.out
   have hnb23 := NB315_323.out
   have hnc23 := NB323_315.out
   have hcz24_0 : w17.cell? ⟨gb315, 0, none⟩ = some (.slice A0_0 l0_0.length c0_0) := (kC BK315.out 0).trans rfl
   have hcz24_1 : w17.cell? ⟨gb315, 1, none⟩ = some (.slice A0_1 l0_1.length c0_1) := (kC BK315.out 1).trans rfl
   have hfz24_0 := kF BK315.out 0
   have hfz24_1 := kF BK315.out 1
   try go_wp2
   go_loopg [28] k (fun kq v28 w' => ∃ (x28_1 : Int) (x324000_1 : List Int) (x324001_1 : List Int) (u324000 : Value) (u324001 : Value), v28 = .int .i64 x28_1 ∧ Aside0 (impl_cover.l0 kq a1 l2 l0_1 (l0_1.length : Int) x28_1 l0_0 l0_1 x324000_1 x324001_1 = some (r1, r2)) ∧ Aside0 (kq ≤ k) ∧ Aside0 (Kd.R (Kd.int .i64) 3 w' w.heap.size (fun k_ => some k_ ≠ (u324001 : Value).ownBlock) u324000 x324000_1) ∧ Aside0 (Kd.R (Kd.int .i64) 3 w' w.heap.size (fun k_ => some k_ ≠ (u324000 : Value).ownBlock) u324001 x324001_1) ∧ Aside0 (w'.heap[gb315]? = some (.cells #[(.slice A0_0 l0_0.length c0_0), (.slice A0_1 l0_1.length c0_1)] 29 (0, 0))) ∧ Aside0 (w'.heap[gb316]? = some (.cells #[(.slice none 0 0), (.slice none 0 0)] 29 (0, 0))) ∧ Aside0 (w'.heap[gb323]? = some (.cells #[u324000, u324001] 29 (0, 0))) ∧ Aside0 (Below w.heap.size w w'))
   case atStart => exact ⟨(0), (y317), (y320), (.slice Ao19 y317.length co19), (.slice Ao18 y320.length co18), (by first | rfl | (simp; done) | (simp [*]; done)), H', ⟨Nat.le_refl _⟩, ⟨by (with_reducible repeat (first | apply rA | apply rN | apply rD)); exact rM (rF (p := ⟨gb323, 1, none⟩) (rF (p := ⟨gb323, 0, none⟩) (rY HO319.out BK323.out (by decide)) (fun _ hk => hk.2) (.slice Ao19 y317.length co19)) (fun _ hk => hk.2) (.slice Ao18 y320.length co18)) (fun _ hk => hk.1)⟩, ⟨by (with_reducible repeat (first | apply rA | apply rN | apply rD)); exact rM (rF (p := ⟨gb323, 1, none⟩) (rF (p := ⟨gb323, 0, none⟩) (rY HO322.out BK323.out (by decide)) (fun _ hk => hk.2) (.slice Ao19 y317.length co19)) (fun _ hk => hk.2) (.slice Ao18 y320.length co18)) (fun _ hk => hk.1)⟩, ⟨by (with_reducible repeat (first | refine kN ?_ _ | refine kD ?_ | refine kA ?_ _)); refine blk_far ?_ NB315_323.out _; (with_reducible repeat (first | refine kN ?_ _ | refine kD ?_ | refine kA ?_ _)); refine blk_far ?_ NB315_323.out _; (with_reducible repeat (first | refine kN ?_ _ | refine kD ?_ | refine kA ?_ _)); exact BK315.out⟩, ⟨by (with_reducible repeat (first | refine kN ?_ _ | refine kD ?_ | refine kA ?_ _)); refine blk_far ?_ NB316_323.out _; (with_reducible repeat (first | refine kN ?_ _ | refine kD ?_ | refine kA ?_ _)); refine blk_far ?_ NB316_323.out _; (with_reducible repeat (first | refine kN ?_ _ | refine kD ?_ | refine kA ?_ _)); exact BK316.out⟩, ⟨by (with_reducible repeat (first | refine kN ?_ _ | refine kD ?_ | refine kA ?_ _)); refine blk_put (cs := #[.slice Ao19 y317.length co19, .slice none 0 0]) ?_ 1 _ rfl; (with_reducible repeat (first | refine kN ?_ _ | refine kD ?_ | refine kA ?_ _)); refine blk_put (cs := #[.slice none 0 0, .slice none 0 0]) ?_ 0 _ rfl; (with_reducible repeat (first | refine kN ?_ _ | refine kD ?_ | refine kA ?_ _)); exact BK323.out⟩, ⟨by repeat (first | (with_reducible first | exact HB.out | apply bA | apply bN | apply bD | refine bS ?_ GE315.out | refine bS ?_ GE316.out | refine bS ?_ GE323.out) | exact HB.out)⟩⟩
   case round =>
    clear H'
    try clear c2
    try clear p2
    try clear c22
    try clear c23
    try clear hcz24_0
    try clear hcz24_1
    try clear hfz24_0
    try clear hfz24_1
    obtain ⟨x28_1, x324000_1, x324001_1, u324000, u324001, rfl, HA, HK1, HO_324000, HO_324001, BK315, BK316, BK323, HB⟩ := hrel
    cases gk with
    | zero => exact absurd HA.out (by simp [impl_cover.l0])
    | succ k1 =>
     have H := HA.out
     clear HA
     simp only [impl_cover.l0] at H
     by_cases c25 : x28_1 < (l0_1.length : Int)
     ·rw [if_pos c25] at H
      have c25b0 : decide (x28_1 < (l0_1.length : Int)) = true := dT c25
      clear c25
      by_cases c26 : 0 ≤ x28_1
      ·rw [if_pos c26] at H
       have c26b0 : decide (0 ≤ x28_1) = true := dT c26
       clear c26
       by_cases c27 : x28_1 < (l0_1.length : Int)
       ·rw [if_pos c27] at H
        have c27b0 : decide (x28_1 < (l0_1.length : Int)) = true := dT c27
        clear c27
        replace H := Option.bind_eq_some_iff.mp H
        obtain ⟨t325, A280, H⟩ := H
        replace H : (impl_cover.l1 k1 a1 l2 x28_1 (rd l0_1 x28_1) t325 l0_1 (l0_1.length : Int) x28_1 a1 0 l0_0 l0_1 x324000_1 x324001_1) = some (r1, r2) := H
        have A28 := A0_ A280
        clear A280
        have H' := A0_ H
        clear H
        have p324 : 0 ≤ (x28_1 : Int) := oD (by assumption)
        have q324 : x28_1 < (l0_1.length : Int) := oD (by assumption)
        obtain ⟨ad324, e324, hx324_0⟩ := tI HR0_1.out x28_1 p324 q324
        cases e324
        replace hx324_0 := (HB.out.cell (wL w _ hx324_0)).trans hx324_0
        replace p324 := eq_true p324
        replace q324 := eq_true q324
        have hnb29 := NB315_316.out
        have hnc29 := NB316_315.out
        have hnb30 := NB315_323.out
        have hnc30 := NB323_315.out
        have hcz31_0 : wr.cell? ⟨gb315, 0, none⟩ = some (.slice A0_0 l0_0.length c0_0) := (kC BK315.out 0).trans rfl
        have hcz31_1 : wr.cell? ⟨gb315, 1, none⟩ = some (.slice (some ad324) l0_1.length c0_1) := (kC BK315.out 1).trans rfl
        have hfz31_0 := kF BK315.out 0
        have hfz31_1 := kF BK315.out 1
        go_wp2_with (first | ((with_reducible refine gC (f := 91) rfl ?_); refine goesL_ (some 36) rfl rfl Try.func91 (by kernel_rfl) rfl #[.agg #[.slice A0_0 l0_0.length c0_0, .slice (some ad324) l0_1.length c0_1], .slice A2 l2.length c2, .int .i64 x28_1] rfl (by (try simp only [List.map_toArray, List.map_cons, List.map_nil]); first | done | rfl) ?_; (with_reducible refine (impl_along.calls k1 _ _ l0_0 _ _ l0_1 (fun k_ => k_ < w.heap.size) _ _ l2 x28_1 t325 _ ?side1 ?side2 ?side3 ?side4 ?side5 A28.out).mono ?_); (case side1 => repeat (first | exact (cB HR0_0.out HB.out) | (with_reducible refine cA ?_ _))); (case side2 => exact HC0_0.out); (case side3 => repeat (first | exact (cB HR0_1.out HB.out) | (with_reducible refine cA ?_ _))); (case side4 => exact HC0_1.out); (case side5 => exact Kd.V_mk HC2.out (Kd.F_below (Kd.C_F (Kd.heap_slice 3 (Kd.heap_int .i64)) HR2.out) (by repeat (first | (with_reducible first | exact HB.out | apply bA | apply bN | apply bD | refine bS ?_ GE315.out | refine bS ?_ GE316.out | refine bS ?_ GE323.out) | exact HB.out)))); rintro e w32 ⟨v326, rfl, ho0, hb⟩; refine ⟨_, rfl, ?_⟩; have n0_ := A0_ (rB (by (with_reducible repeat apply rA); exact HO_324000.out) hb); have n1_ := A0_ (rB (by (with_reducible repeat apply rA); exact HO_324001.out) hb); have n2_ := A0_ (Kd.V_lower (Kd.V_mono (ok' := fun k_ => some k_ ≠ (u324000 : Value).ownBlock ∧ some k_ ≠ (u324001 : Value).ownBlock ∧ k_ ≠ gb315 ∧ k_ ≠ gb316 ∧ k_ ≠ gb323) ho0 (fun k_ hk_ => ⟨Or.elim hk_ (fun hs_ => fun e_ => Nat.not_le.2 hs_ (Kd.R_base HO_324000.out k_ e_.symm)) (fun hn_ => (Kd.fresh' (rX (by (with_reducible repeat apply rA); exact HO_324000.out)) k_ hn_)), Or.elim hk_ (fun hs_ => fun e_ => Nat.not_le.2 hs_ (Kd.R_base HO_324001.out k_ e_.symm)) (fun hn_ => (Kd.fresh' (rX (by (with_reducible repeat apply rA); exact HO_324001.out)) k_ hn_)), Or.elim hk_ (fun hs_ => fun e_ => Nat.not_le.2 hs_ (by rw [e_]; exact GW315.out)) (fun hn_ => (Kd.freshB (g := gb315) (o := .cells #[.slice A0_0 l0_0.length c0_0, .slice (some ad324) l0_1.length c0_1] 29 (0, 0)) (by (with_reducible repeat refine kA ?_ _); exact BK315.out) k_ hn_)), Or.elim hk_ (fun hs_ => fun e_ => Nat.not_le.2 hs_ (by rw [e_]; exact GW316.out)) (fun hn_ => (Kd.freshB (g := gb316) (o := .cells #[.slice none 0 0, .slice none 0 0] 29 (0, 0)) (by (with_reducible repeat refine kA ?_ _); exact BK316.out) k_ hn_)), Or.elim hk_ (fun hs_ => fun e_ => Nat.not_le.2 hs_ (by rw [e_]; exact GW323.out)) (fun hn_ => (Kd.freshB (g := gb323) (o := .cells #[u324000, u324001] 29 (0, 0)) (by (with_reducible repeat refine kA ?_ _); exact BK323.out) k_ hn_))⟩)) (bZ (by repeat (first | (with_reducible first | exact HB.out | apply bA | apply bN | apply bD | refine bS ?_ GE315.out | refine bS ?_ GE316.out | refine bS ?_ GE323.out) | exact HB.out)))); have n3_ := A0_ (kB (g := gb315) (o := .cells #[.slice A0_0 l0_0.length c0_0, .slice (some ad324) l0_1.length c0_1] 29 (0, 0)) (by (with_reducible repeat refine kA ?_ _); exact BK315.out) hb); have n4_ := A0_ (kB (g := gb316) (o := .cells #[.slice none 0 0, .slice none 0 0] 29 (0, 0)) (by (with_reducible repeat refine kA ?_ _); exact BK316.out) hb); have n5_ := A0_ (kB (g := gb323) (o := .cells #[u324000, u324001] 29 (0, 0)) (by (with_reducible repeat refine kA ?_ _); exact BK323.out) hb); have n6_ := A0_ (bT (by repeat (first | (with_reducible first | exact HB.out | apply bA | apply bN | apply bD | refine bS ?_ GE315.out | refine bS ?_ GE316.out | refine bS ?_ GE323.out) | exact HB.out)) hb); clear HO_324000; clear HO_324001; clear BK315; clear BK316; clear BK323; clear HB; have HO_324000 := n0_; have HO_324001 := n1_; have HO327 := n2_; have BK315 := n3_; have BK316 := n4_; have BK323 := n5_; have HB := n6_; clear n0_ n1_ n2_ n3_ n4_ n5_ n6_; (try clear hb); (try clear hb2); (try clear hk); (try clear hi); (try clear ho0)))
        (try generalize Value.pointer (some (ad324.add (x28_1 : Int).toNat)) = pz_)
        go_loopg [38] k1 (fun kq v38 w' => ∃ (x10_2 : List Int) (x38_2 : Int) (x324000_2 : List Int) (x324001_2 : List Int) (u324000 : Value) (u324001 : Value), v38 = .int .i64 x38_2 ∧ Aside0 (impl_cover.l1 kq a1 l2 x28_1 (rd l0_1 x28_1) x10_2 l0_1 (l0_1.length : Int) x28_1 a1 x38_2 l0_0 l0_1 x324000_2 x324001_2 = some (r1, r2)) ∧ Aside0 (kq ≤ k1) ∧ Aside0 (Kd.V (Kd.int .i64) 3 w' w.heap.size (fun k_ => some k_ ≠ (u324000 : Value).ownBlock ∧ some k_ ≠ (u324001 : Value).ownBlock ∧ k_ ≠ gb315 ∧ k_ ≠ gb316 ∧ k_ ≠ gb323) v326 x10_2) ∧ Aside0 (Kd.R (Kd.int .i64) 3 w' w.heap.size (fun k_ => some k_ ≠ (u324001 : Value).ownBlock) u324000 x324000_2) ∧ Aside0 (Kd.R (Kd.int .i64) 3 w' w.heap.size (fun k_ => some k_ ≠ (u324000 : Value).ownBlock) u324001 x324001_2) ∧ Aside0 (w'.heap[gb315]? = some (.cells #[(.slice A0_0 l0_0.length c0_0), (.slice (some ad324) l0_1.length c0_1)] 29 (0, 0))) ∧ Aside0 (w'.heap[gb316]? = some (.cells #[(.slice none 0 0), (.slice none 0 0)] 29 (0, 0))) ∧ Aside0 (w'.heap[gb323]? = some (.cells #[u324000, u324001] 29 (0, 0))) ∧ Aside0 (Below w.heap.size w w'))
        case atStart => exact ⟨(t325), (0), (x324000_1), (x324001_1), (u324000), (u324001), (by first | rfl | (simp; done) | (simp [*]; done)), H', ⟨Nat.le_refl _⟩, ⟨by (with_reducible repeat (first | apply Kd.V_alloc | apply Kd.V_drewN | apply Kd.V_drew)); exact HO327.out⟩, ⟨by (with_reducible repeat (first | apply rA | apply rN | apply rD)); exact HO_324000.out⟩, ⟨by (with_reducible repeat (first | apply rA | apply rN | apply rD)); exact HO_324001.out⟩, ⟨by (with_reducible repeat (first | refine kN ?_ _ | refine kD ?_ | refine kA ?_ _)); exact BK315.out⟩, ⟨by (with_reducible repeat (first | refine kN ?_ _ | refine kD ?_ | refine kA ?_ _)); exact BK316.out⟩, ⟨by (with_reducible repeat (first | refine kN ?_ _ | refine kD ?_ | refine kA ?_ _)); exact BK323.out⟩, ⟨by repeat (first | (with_reducible first | exact HB.out | apply bA | apply bN | apply bD | refine bS ?_ GE315.out | refine bS ?_ GE316.out | refine bS ?_ GE323.out) | exact HB.out)⟩⟩
        case round =>
         clear H'
         try clear c2
         try clear p2
         try clear c3
         try clear p3
         try clear q3
         try clear hx3
         try clear c9
         try clear c22
         try clear c23
         try clear c25
         try clear c25b0
         try clear c26
         try clear c26b0
         try clear c27
         try clear c27b0
         try clear c29
         try clear c30
         try clear p32
         try clear q32
         try clear hx32
         try clear hcz24_0
         try clear hcz24_1
         try clear hcz31_0
         try clear hcz31_1
         try clear hfz24_0
         try clear hfz24_1
         try clear hfz31_0
         try clear hfz31_1
         try clear hx324_0
         try clear p2
         try clear p324
         try clear q324
         obtain ⟨x10_2, x38_2, x324000_2, x324001_2, u324000, u324001, rfl, HA, HK2, HO_10, HO_324000, HO_324001, BK315, BK316, BK323, HB⟩ := hrel
         cases gk with
         | zero => exact absurd HA.out (by simp [impl_cover.l1])
         | succ k2 =>
          have H := HA.out
          clear HA
          simp only [impl_cover.l1] at H
          by_cases c33 : x38_2 < a1
          ·rw [if_pos c33] at H
           have c33b0 : decide (x38_2 < a1) = true := dT c33
           clear c33
           by_cases c34 : 0 ≤ x28_1
           ·rw [if_pos c34] at H
            have c34b0 : decide (0 ≤ x28_1) = true := dT c34
            clear c34
            by_cases c35 : x28_1 < (l0_0.length : Int)
            ·rw [if_pos c35] at H
             have c35b0 : decide (x28_1 < (l0_0.length : Int)) = true := dT c35
             clear c35
             obtain ⟨ji36, hji36⟩ : ∃ j_ : Int, (wrap64 ((wrap64 (a1 * x28_1)) + x38_2)) = j_ := ⟨_, rfl⟩
             replace H : (if 0 ≤ (ji36) then (if (ji36) < (x324000_2.length : Int) then (if 0 ≤ x38_2 then (if x38_2 < (x10_2.length : Int) then (if (ji36) < (x324001_2.length : Int) then (impl_cover.l1 k2 a1 l2 x28_1 (rd l0_1 x28_1) x10_2 l0_1 (l0_1.length : Int) x28_1 a1 (wrap64 (x38_2 + 1)) l0_0 l0_1 (x324000_2.set ((ji36) : Int).toNat (wrap64 ((wrap64 (a1 * (rd l0_0 x28_1))) + x38_2))) (x324001_2.set ((ji36) : Int).toNat (wrap64 ((wrap64 (a1 * (rd l0_1 x28_1))) + (rd x10_2 x38_2))))) else (none)) else (none)) else (none)) else (none)) else (none)) = some (r1, r2) := by first | (rw [hji36] at H; exact H) | (simp only [hji36] at H ⊢; exact H)
             have hji36w : (IntKind.i64.wrap ((wrap64 (a1 * x28_1)) + x38_2)) = ji36 := (i64_w _).trans hji36
             by_cases c37 : 0 ≤ (ji36)
             ·rw [if_pos c37] at H
              have c37b0 : decide (0 ≤ (ji36)) = true := dT c37
              clear c37
              by_cases c38 : (ji36) < (x324000_2.length : Int)
              ·rw [if_pos c38] at H
               have c38b0 : decide ((ji36) < (x324000_2.length : Int)) = true := dT c38
               clear c38
               obtain ⟨y329, hy329⟩ : ∃ y_ : List Int, y_ = (x324000_2.set ((ji36) : Int).toNat (wrap64 ((wrap64 (a1 * (rd l0_0 x28_1))) + x38_2))) := ⟨_, rfl⟩
               replace H : (if 0 ≤ x38_2 then (if x38_2 < (x10_2.length : Int) then (if (ji36) < (x324001_2.length : Int) then (impl_cover.l1 k2 a1 l2 x28_1 (rd l0_1 x28_1) x10_2 l0_1 (l0_1.length : Int) x28_1 a1 (wrap64 (x38_2 + 1)) l0_0 l0_1 y329 (x324001_2.set ((ji36) : Int).toNat (wrap64 ((wrap64 (a1 * (rd l0_1 x28_1))) + (rd x10_2 x38_2))))) else (none)) else (none)) else (none)) = some (r1, r2) := by first | (rw [hy329]; with_reducible exact H) | (have H2_ := (Option.bind_some _ _).symm.trans H; rw [hy329]; with_reducible exact H2_) | (have H2_ := (Option.bind_some _ _).symm.trans H; with_reducible exact H2_) | with_reducible exact H | (rw [hy329]; exact H) | exact H
               have Ny329 := A0_ hy329
               clear hy329
               by_cases c40 : 0 ≤ x38_2
               ·rw [if_pos c40] at H
                have c40b0 : decide (0 ≤ x38_2) = true := dT c40
                clear c40
                by_cases c41 : x38_2 < (x10_2.length : Int)
                ·rw [if_pos c41] at H
                 have c41b0 : decide (x38_2 < (x10_2.length : Int)) = true := dT c41
                 clear c41
                 by_cases c42 : (ji36) < (x324001_2.length : Int)
                 ·rw [if_pos c42] at H
                  have c42b0 : decide ((ji36) < (x324001_2.length : Int)) = true := dT c42
                  clear c42
                  obtain ⟨y331, hy331⟩ : ∃ y_ : List Int, y_ = (x324001_2.set ((ji36) : Int).toNat (wrap64 ((wrap64 (a1 * (rd l0_1 x28_1))) + (rd x10_2 x38_2)))) := ⟨_, rfl⟩
                  replace H : (impl_cover.l1 k2 a1 l2 x28_1 (rd l0_1 x28_1) x10_2 l0_1 (l0_1.length : Int) x28_1 a1 (wrap64 (x38_2 + 1)) l0_0 l0_1 y329 y331) = some (r1, r2) := by first | (rw [hy331]; with_reducible exact H) | (have H2_ := (Option.bind_some _ _).symm.trans H; rw [hy331]; with_reducible exact H2_) | (have H2_ := (Option.bind_some _ _).symm.trans H; with_reducible exact H2_) | with_reducible exact H | (rw [hy331]; exact H) | exact H
                  have Ny331 := A0_ hy331
                  clear hy331
                  have H' := A0_ H
                  clear H
                  try go_wp2
                  have n0_ := A0_ (Kd.V_drew HO_10.out)
                  have n1_ := A0_ (rD HO_324000.out)
                  have n2_ := A0_ (rD HO_324001.out)
                  have n3_ := A0_ (kD BK315.out)
                  have n4_ := A0_ (kD BK316.out)
                  have n5_ := A0_ (kD BK323.out)
                  have n6_ := A0_ (bD HB.out)
                  clear HO_10
                  clear HO_324000
                  clear HO_324001
                  clear BK315
                  clear BK316
                  clear BK323
                  clear HB
                  have HO_10 := n0_
                  have HO_324000 := n1_
                  have HO_324001 := n2_
                  have BK315 := n3_
                  have BK316 := n4_
                  have BK323 := n5_
                  have HB := n6_
                  clear n0_ n1_ n2_ n3_ n4_ n5_ n6_
                  have p328 : 0 ≤ (x28_1 : Int) := oD (by assumption)
                  have q328 : x28_1 < (l0_0.length : Int) := oD (by assumption)
                  obtain ⟨ad328, e328, hx328_0⟩ := tI HR0_0.out x28_1 p328 q328
                  have hw328_0 := hx328_0
                  cases e328
                  replace hx328_0 := (HB.out.cell (wL w _ hx328_0)).trans hx328_0
                  replace p328 := eq_true p328
                  replace q328 := eq_true q328
                  have p39 : 0 ≤ ((ji36) : Int) := oD (by assumption)
                  have q39 : ((ji36) : Int) < ((x324000_2.length : Int) : Int) := oD (by assumption)
                  obtain ⟨go39, co39, eo39, gb39, gl39, cl39, HG39⟩ := Kd.R_form HO_324000.out (by omega)
                  (first | cases eo39 | (injection eo39 with ea_ en_ ec_; (first | subst ea_ | (injection ea_ with ea_; subst ea_)); subst ec_; clear en_))
                  have GB39 := A0_ gb39
                  have GG39 := A0_ HG39
                  clear gb39 gl39 HG39
                  obtain ⟨hx39_0, hf39_0⟩ := Kd.R_celln 0 HO_324000.out ((ji36) : Int) p39 q39
                  replace p39 := eq_true p39
                  replace q39 := eq_true q39
                  have HP45 := Kd.R_putn HO_324000.out ((ji36) : Int) (wrap64 ((wrap64 (a1 * (rd l0_0 x28_1))) + x38_2))
                  rw [← Ny329.out] at HP45
                  have HQ45 := A0_ HP45
                  clear HP45
                  refine start_ (n := 18) (S := fun w' => w'.cell? ⟨gb323, 0, none⟩ = some (.slice (some ⟨go39, 0, none⟩) x324000_2.length co39) ∧ w'.cell? ⟨gb323, 1, none⟩ = some (u324001) ∧ w'.cell? ⟨gb315, 0, none⟩ = some (.slice (some ad328) l0_0.length c0_0) ∧ w'.cell? ⟨gb315, 1, none⟩ = some (.slice (some ad324) l0_1.length c0_1) ∧ w'.cell? (ad328.add (x28_1).toNat) = some (.int .i64 (rd l0_0 x28_1))) (ds := [17]) #[false, false, false, false, false, false, false, false, false, false, false, false, false, false, false, false, false, false] (by kernel_rfl) rfl rfl ⟨(kC BK323.out 0).trans rfl, (kC BK323.out 1).trans rfl, (kC BK315.out 0).trans rfl, (kC BK315.out 1).trans rfl, ((HB.out.cell (wL w _ hw328_0)).trans hw328_0)⟩ (fun hHeld => ?_); refine with_tabW impl_cover.tab9 impl_cover.bits9 (fun HT_ HW_ => ?_)
                  generalize wr.drew = w44 at HO_10 HO_324000 HO_324001 BK315 BK316 BK323 HB GG39 HQ45 hf39_0 hx328_0 hx39_0 hHeld ⊢
                  refine pure_ (i := 0) (N := some 41) (v := ?_) (a' := ?_) #[true, false, false, false, false, false, false, false, false, false, false, false, false, false, false, false, false, false] rfl rfl (any_of HT_.out (by kernel_rfl)) (fun _ _ _ h => h) (Or.inl ⟨by rfl, ?_⟩) ?_ ?_
                  rotate_left
                  ·intro w'
                   go_simp
                   with_reducible rfl
                  rotate_left
                  ·simp only [Act.put, List.setIfInBounds_toArray, List.set_cons_zero, List.set_cons_succ, i64_w, i32_w]
                   rfl
                  refine pure_ (i := 2) (N := some 43) (v := ?_) (a' := ?_) #[true, false, true, false, false, false, false, false, false, false, false, false, false, false, false, false, false, false] rfl rfl (any_of HT_.out (by kernel_rfl)) (fun _ _ _ h => h) (Or.inl ⟨by rfl, ?_⟩) ?_ ?_
                  rotate_left
                  ·intro w'
                   go_simp
                   with_reducible rfl
                  rotate_left
                  ·simp only [Act.put, List.setIfInBounds_toArray, List.set_cons_zero, List.set_cons_succ, i64_w, i32_w]
                   rfl
                  refine pure_ (i := 3) (N := some 44) (v := ?_) (a' := ?_) #[true, false, true, true, false, false, false, false, false, false, false, false, false, false, false, false, false, false] rfl rfl (any_of HT_.out (by kernel_rfl)) (fun _ _ _ h => h) (Or.inl ⟨by rfl, ?_⟩) ?_ ?_
                  rotate_left
                  ·intro w'
                   go_simp
                   with_reducible rfl
                  rotate_left
                  ·simp only [Act.put, List.setIfInBounds_toArray, List.set_cons_zero, List.set_cons_succ, i64_w, i32_w]
                   rfl
                  refine pure_ (i := 4) (N := some 45) (v := ?_) (a' := ?_) #[true, false, true, true, true, false, false, false, false, false, false, false, false, false, false, false, false, false] rfl rfl (any_of HT_.out (by kernel_rfl)) (fun _ _ _ h => h) (Or.inl ⟨by rfl, ?_⟩) ?_ ?_
                  rotate_left
                  ·intro w'
                   go_simp
                   with_reducible rfl
                  rotate_left
                  ·simp only [Act.put, List.setIfInBounds_toArray, List.set_cons_zero, List.set_cons_succ, i64_w, i32_w]
                   rfl
                  refine pure_ (i := 5) (N := some 46) (v := ?_) (a' := ?_) #[true, false, true, true, true, true, false, false, false, false, false, false, false, false, false, false, false, false] rfl rfl (any_of HT_.out (by kernel_rfl)) (fun _ _ _ h => h) (Or.inl ⟨by rfl, ?_⟩) ?_ ?_
                  rotate_left
                  ·intro w'
                   go_simp
                   with_reducible rfl
                  rotate_left
                  ·simp only [Act.put, List.setIfInBounds_toArray, List.set_cons_zero, List.set_cons_succ, i64_w, i32_w]
                   rfl
                  refine pure_ (i := 6) (N := some 47) (v := ?_) (a' := ?_) #[true, false, true, true, true, true, true, false, false, false, false, false, false, false, false, false, false, false] rfl rfl (any_of HT_.out (by kernel_rfl)) (fun _ _ _ h => h) (Or.inl ⟨by rfl, ?_⟩) ?_ ?_
                  rotate_left
                  ·intro w'
                   go_simp
                   with_reducible rfl
                  rotate_left
                  ·simp only [Act.put, List.setIfInBounds_toArray, List.set_cons_zero, List.set_cons_succ, i64_w, i32_w]
                   rfl
                  refine pure_ (i := 7) (N := some 48) (v := ?_) (a' := ?_) #[true, false, true, true, true, true, true, true, false, false, false, false, false, false, false, false, false, false] rfl rfl (any_of HT_.out (by kernel_rfl)) (fun _ _ _ h => h) (Or.inl ⟨by rfl, ?_⟩) ?_ ?_
                  rotate_left
                  ·intro w'
                   go_simp
                   with_reducible rfl
                  rotate_left
                  ·simp only [Act.put, List.setIfInBounds_toArray, List.set_cons_zero, List.set_cons_succ, i64_w, i32_w]
                   rfl
                  refine pure_ (i := 8) (N := some 49) (v := ?_) (a' := ?_) #[true, false, true, true, true, true, true, true, true, false, false, false, false, false, false, false, false, false] rfl rfl (any_of HT_.out (by kernel_rfl)) (fun _ _ _ h => h) (Or.inl ⟨by rfl, ?_⟩) ?_ ?_
                  rotate_left
                  ·intro w'
                   go_simp
                   with_reducible rfl
                  rotate_left
                  ·simp only [Act.put, List.setIfInBounds_toArray, List.set_cons_zero, List.set_cons_succ, i64_w, i32_w]
                   rfl
                  refine pure_ (i := 10) (N := some 51) (v := ?_) (a' := ?_) #[true, false, true, true, true, true, true, true, true, false, true, false, false, false, false, false, false, false] rfl rfl (any_of HT_.out (by kernel_rfl)) (fun _ _ _ h => h) (Or.inl ⟨by rfl, ?_⟩) ?_ ?_
                  rotate_left
                  ·intro w'
                   go_simp
                   with_reducible rfl
                  rotate_left
                  ·simp only [Act.put, List.setIfInBounds_toArray, List.set_cons_zero, List.set_cons_succ, i64_w, i32_w]
                   rfl
                  refine pure_ (i := 14) (N := some 55) (v := ?_) (a' := ?_) #[true, false, true, true, true, true, true, true, true, false, true, false, false, false, true, false, false, false] rfl rfl (any_of HT_.out (by kernel_rfl)) (fun _ _ _ h => h) (Or.inl ⟨by rfl, ?_⟩) ?_ ?_
                  rotate_left
                  ·intro w'
                   go_simp
                   with_reducible rfl
                  rotate_left
                  ·simp only [Act.put, List.setIfInBounds_toArray, List.set_cons_zero, List.set_cons_succ, i64_w, i32_w]
                   rfl
                  refine take_ (i := 1) (N := some 42) (v := ?_) (a' := ?_) #[true, true, true, true, true, true, true, true, true, false, true, false, false, false, true, false, false, false] rfl rfl (take_ofW HT_.out HW_.out (by kernel_rfl)) (fun _ _ _ h => h) (Or.inl ⟨by rfl, ?_⟩) hHeld ?_ ?_
                  rotate_left
                  ·rintro w' ⟨s0, s1, s2, s3, s4⟩
                   go_simp
                   with_reducible rfl
                  rotate_left
                  ·simp only [Act.put, List.setIfInBounds_toArray, List.set_cons_zero, List.set_cons_succ, i64_w, i32_w]
                   rfl
                  refine take_ (i := 9) (N := some 50) (v := ?_) (a' := ?_) #[true, true, true, true, true, true, true, true, true, true, true, false, false, false, true, false, false, false] rfl rfl (take_ofW HT_.out HW_.out (by kernel_rfl)) (fun _ _ _ h => h) (Or.inl ⟨by rfl, ?_⟩) hHeld ?_ ?_
                  rotate_left
                  ·rintro w' ⟨s0, s1, s2, s3, s4⟩
                   go_simp
                   with_reducible rfl
                  rotate_left
                  ·simp only [Act.put, List.setIfInBounds_toArray, List.set_cons_zero, List.set_cons_succ, i64_w, i32_w]
                   rfl
                  refine pure_ (i := 11) (N := some 52) (v := ?_) (a' := ?_) #[true, true, true, true, true, true, true, true, true, true, true, true, false, false, true, false, false, false] rfl rfl (any_of HT_.out (by kernel_rfl)) (fun _ _ _ h => h) (Or.inl ⟨by rfl, ?_⟩) ?_ ?_
                  rotate_left
                  ·intro w'
                   go_simp
                   with_reducible rfl
                  rotate_left
                  ·simp only [Act.put, List.setIfInBounds_toArray, List.set_cons_zero, List.set_cons_succ, i64_w, i32_w]
                   rfl
                  refine take_ (i := 12) (N := some 53) (v := ?_) (a' := ?_) #[true, true, true, true, true, true, true, true, true, true, true, true, true, false, true, false, false, false] rfl rfl (take_ofW HT_.out HW_.out (by kernel_rfl)) (fun _ _ _ h => h) (Or.inl ⟨by rfl, ?_⟩) hHeld ?_ ?_
                  rotate_left
                  ·rintro w' ⟨s0, s1, s2, s3, s4⟩
                   go_simp
                   with_reducible rfl
                  rotate_left
                  ·simp only [Act.put, List.setIfInBounds_toArray, List.set_cons_zero, List.set_cons_succ, i64_w, i32_w]
                   rfl
                  refine pure_ (i := 13) (N := some 54) (v := ?_) (a' := ?_) #[true, true, true, true, true, true, true, true, true, true, true, true, true, true, true, false, false, false] rfl rfl (any_of HT_.out (by kernel_rfl)) (fun _ _ _ h => h) (Or.inl ⟨by rfl, ?_⟩) ?_ ?_
                  rotate_left
                  ·intro w'
                   go_simp
                   with_reducible rfl
                  rotate_left
                  ·simp only [Act.put, List.setIfInBounds_toArray, List.set_cons_zero, List.set_cons_succ, i64_w, i32_w]
                   rfl
                  refine pure_ (i := 15) (N := some 56) (v := ?_) (a' := ?_) #[true, true, true, true, true, true, true, true, true, true, true, true, true, true, true, true, false, false] rfl rfl (any_of HT_.out (by kernel_rfl)) (fun _ _ _ h => h) (Or.inl ⟨by rfl, ?_⟩) ?_ ?_
                  rotate_left
                  ·intro w'
                   go_simp
                   with_reducible rfl
                  rotate_left
                  ·simp only [Act.put, List.setIfInBounds_toArray, List.set_cons_zero, List.set_cons_succ, i64_w, i32_w]
                   rfl
                  refine pure_ (i := 16) (N := some 57) (v := ?_) (a' := ?_) #[true, true, true, true, true, true, true, true, true, true, true, true, true, true, true, true, true, false] rfl rfl (any_of HT_.out (by kernel_rfl)) (fun _ _ _ h => h) (Or.inl ⟨by rfl, ?_⟩) ?_ ?_
                  rotate_left
                  ·intro w'
                   go_simp
                   with_reducible rfl
                  rotate_left
                  ·simp only [Act.put, List.setIfInBounds_toArray, List.set_cons_zero, List.set_cons_succ, i64_w, i32_w]
                   rfl
                  refine last_ (i := 17) (N := none) #[true, true, true, true, true, true, true, true, true, true, true, true, true, true, true, true, true, true] rfl rfl (one_of HT_.out (by kernel_rfl)) (by decide) (fun K hK => ?_)
                  refine skip_ (w1 := ?_) (by rfl) rfl ?_ ?_
                  rotate_left
                  ·go_simp
                   rfl
                  refine hK.out _ _ ?_
                  clear hK K
                  refine done_ (done_of HT_.out (by kernel_rfl)) ?_
                  try go_wp2
                  have n0_ : Aside0 (Kd.V (Kd.int .i64) 3 (w44.setCell ⟨go39, ((ji36) : Int).toNat, none⟩ (.int .i64 (wrap64 ((wrap64 (a1 * (rd l0_0 x28_1))) + x38_2)))) w.heap.size (fun k_ => some k_ ≠ (.slice (some ⟨go39, 0, none⟩) x324000_2.length co39 : Value).ownBlock ∧ some k_ ≠ (u324001 : Value).ownBlock ∧ k_ ≠ gb315 ∧ k_ ≠ gb316 ∧ k_ ≠ gb323) v326 x10_2) := ⟨by (with_reducible repeat (first | apply Kd.V_alloc | apply Kd.V_drewN | apply Kd.V_drew)); exact Kd.V_mono (Kd.V_far (p := ⟨go39, ((ji36) : Int).toNat, none⟩) (Kd.V_mono HO_10.out (fun k_ hk => (⟨hk, fun e_ => hk.1 (by rw [e_]; rfl)⟩ : _ ∧ k_ ≠ go39))) (fun _ hk => hk.2) (.int .i64 (wrap64 ((wrap64 (a1 * (rd l0_0 x28_1))) + x38_2)))) (fun _ hk => ⟨hk.1.1, ⟨hk.1.2.1, ⟨hk.1.2.2.1, ⟨hk.1.2.2.2.1, hk.1.2.2.2.2⟩⟩⟩⟩)⟩
                  have n1_ : Aside0 (Kd.R (Kd.int .i64) 3 (w44.setCell ⟨go39, ((ji36) : Int).toNat, none⟩ (.int .i64 (wrap64 ((wrap64 (a1 * (rd l0_0 x28_1))) + x38_2)))) w.heap.size (fun k_ => some k_ ≠ (u324001 : Value).ownBlock) (.slice (some ⟨go39, 0, none⟩) x324000_2.length co39) y329) := ⟨by (with_reducible repeat (first | apply rA | apply rN | apply rD)); exact HQ45.out⟩
                  have n2_ : Aside0 (Kd.R (Kd.int .i64) 3 (w44.setCell ⟨go39, ((ji36) : Int).toNat, none⟩ (.int .i64 (wrap64 ((wrap64 (a1 * (rd l0_0 x28_1))) + x38_2)))) w.heap.size (fun k_ => some k_ ≠ (.slice (some ⟨go39, 0, none⟩) x324000_2.length co39 : Value).ownBlock) u324001 x324001_2) := ⟨by (with_reducible repeat (first | apply rA | apply rN | apply rD)); exact rM (rF (p := ⟨go39, ((ji36) : Int).toNat, none⟩) (rM HO_324001.out (fun k_ hk => (⟨hk, fun e_ => hk (by rw [e_]; rfl)⟩ : _ ∧ k_ ≠ go39))) (fun _ hk => hk.2) (.int .i64 (wrap64 ((wrap64 (a1 * (rd l0_0 x28_1))) + x38_2)))) (fun _ hk => hk.1)⟩
                  have n3_ : Aside0 ((w44.setCell ⟨go39, ((ji36) : Int).toNat, none⟩ (.int .i64 (wrap64 ((wrap64 (a1 * (rd l0_0 x28_1))) + x38_2)))).heap[gb315]? = some (.cells #[.slice (some ad328) l0_0.length c0_0, .slice (some ad324) l0_1.length c0_1] 29 (0, 0))) := ⟨by (with_reducible repeat (first | refine kN ?_ _ | refine kD ?_ | refine kA ?_ _)); refine blk_far ?_ (by have h_ := Kd.R_ne HO_324000.out BK315.out (by decide); intro e_; exact h_ (by rw [e_]; rfl)) _; (with_reducible repeat (first | refine kN ?_ _ | refine kD ?_ | refine kA ?_ _)); exact BK315.out⟩
                  have n4_ : Aside0 ((w44.setCell ⟨go39, ((ji36) : Int).toNat, none⟩ (.int .i64 (wrap64 ((wrap64 (a1 * (rd l0_0 x28_1))) + x38_2)))).heap[gb316]? = some (.cells #[.slice none 0 0, .slice none 0 0] 29 (0, 0))) := ⟨by (with_reducible repeat (first | refine kN ?_ _ | refine kD ?_ | refine kA ?_ _)); refine blk_far ?_ (by have h_ := Kd.R_ne HO_324000.out BK316.out (by decide); intro e_; exact h_ (by rw [e_]; rfl)) _; (with_reducible repeat (first | refine kN ?_ _ | refine kD ?_ | refine kA ?_ _)); exact BK316.out⟩
                  have n5_ : Aside0 ((w44.setCell ⟨go39, ((ji36) : Int).toNat, none⟩ (.int .i64 (wrap64 ((wrap64 (a1 * (rd l0_0 x28_1))) + x38_2)))).heap[gb323]? = some (.cells #[.slice (some ⟨go39, 0, none⟩) x324000_2.length co39, u324001] 29 (0, 0))) := ⟨by (with_reducible repeat (first | refine kN ?_ _ | refine kD ?_ | refine kA ?_ _)); refine blk_far ?_ (by have h_ := Kd.R_ne HO_324000.out BK323.out (by decide); intro e_; exact h_ (by rw [e_]; rfl)) _; (with_reducible repeat (first | refine kN ?_ _ | refine kD ?_ | refine kA ?_ _)); exact BK323.out⟩
                  have n6_ : Aside0 (Below w.heap.size w (w44.setCell ⟨go39, ((ji36) : Int).toNat, none⟩ (.int .i64 (wrap64 ((wrap64 (a1 * (rd l0_0 x28_1))) + x38_2))))) := ⟨by repeat (first | (with_reducible first | exact HB.out | apply bA | apply bN | apply bD | refine bS ?_ GB39.out | refine bS ?_ GE315.out | refine bS ?_ GE316.out | refine bS ?_ GE323.out) | exact HB.out)⟩
                  (try clear HO_10)
                  (try clear HO_324000)
                  (try clear HO_324001)
                  (try clear BK315)
                  (try clear BK316)
                  (try clear BK323)
                  (try clear HB)
                  generalize (w44.setCell ⟨go39, ((ji36) : Int).toNat, none⟩ (.int .i64 (wrap64 ((wrap64 (a1 * (rd l0_0 x28_1))) + x38_2)))) = w46 at n0_ n1_ n2_ n3_ n4_ n5_ n6_ ⊢
                  have HO_10 := n0_
                  have HO_324000 := n1_
                  have HO_324001 := n2_
                  have BK315 := n3_
                  have BK316 := n4_
                  have BK323 := n5_
                  have HB := n6_
                  clear n0_ n1_ n2_ n3_ n4_ n5_ n6_
                  have n0_ := A0_ (Kd.V_drew HO_10.out)
                  have n1_ := A0_ (rD HO_324000.out)
                  have n2_ := A0_ (rD HO_324001.out)
                  have n3_ := A0_ (kD BK315.out)
                  have n4_ := A0_ (kD BK316.out)
                  have n5_ := A0_ (kD BK323.out)
                  have n6_ := A0_ (bD HB.out)
                  clear HO_10
                  clear HO_324000
                  clear HO_324001
                  clear BK315
                  clear BK316
                  clear BK323
                  clear HB
                  have HO_10 := n0_
                  have HO_324000 := n1_
                  have HO_324001 := n2_
                  have BK315 := n3_
                  have BK316 := n4_
                  have BK323 := n5_
                  have HB := n6_
                  clear n0_ n1_ n2_ n3_ n4_ n5_ n6_
                  obtain ⟨Ao48, co48, eo48⟩ := Kd.V_slice HO_10.out
                  (first | subst eo48 | (injection eo48 with f1_ f2_ f3_; have f4_ := f1_.symm; have f5_ := f3_.symm; clear f1_ f2_ f3_; subst f4_; subst f5_))
                  have p330 : 0 ≤ (x38_2 : Int) := oD (by assumption)
                  have q330 : x38_2 < (x10_2.length : Int) := oD (by assumption)
                  obtain ⟨ad330, e330, hx330_0⟩ := tI (Kd.V_reads' HO_10.out).2.2 x38_2 p330 q330
                  cases e330
                  replace p330 := eq_true p330
                  replace q330 := eq_true q330
                  have p43 : 0 ≤ ((ji36) : Int) := oD (by assumption)
                  have q43 : ((ji36) : Int) < ((x324001_2.length : Int) : Int) := oD (by assumption)
                  obtain ⟨go43, co43, eo43, gb43, gl43, cl43, HG43⟩ := Kd.R_form HO_324001.out (by omega)
                  (first | cases eo43 | (injection eo43 with ea_ en_ ec_; (first | subst ea_ | (injection ea_ with ea_; subst ea_)); subst ec_; clear en_))
                  have GB43 := A0_ gb43
                  have GG43 := A0_ HG43
                  clear gb43 gl43 HG43
                  obtain ⟨hx43_0, hf43_0⟩ := Kd.R_celln 0 HO_324001.out ((ji36) : Int) p43 q43
                  replace p43 := eq_true p43
                  replace q43 := eq_true q43
                  have HP49 := Kd.R_putn HO_324001.out ((ji36) : Int) (wrap64 ((wrap64 (a1 * (rd l0_1 x28_1))) + (rd x10_2 x38_2)))
                  rw [← Ny331.out] at HP49
                  have HQ49 := A0_ HP49
                  clear HP49
                  refine start_ (n := 17) (S := fun w' => w'.cell? ⟨gb323, 0, none⟩ = some (.slice (some ⟨go39, 0, none⟩) x324000_2.length co39) ∧ w'.cell? ⟨gb323, 1, none⟩ = some (.slice (some ⟨go43, 0, none⟩) x324001_2.length co43) ∧ w'.cell? (ad330.add (x38_2).toNat) = some (.int .i64 (rd x10_2 x38_2))) (ds := [16]) #[false, false, false, false, false, false, false, false, false, false, false, false, false, false, false, false, false] (by kernel_rfl) rfl rfl ⟨(kC BK323.out 0).trans rfl, (kC BK323.out 1).trans rfl, hx330_0⟩ (fun hHeld => ?_); refine with_tabW impl_cover.tab10 impl_cover.bits10 (fun HT_ HW_ => ?_)
                  generalize w46.drew = w47 at HO_10 HO_324000 HO_324001 BK315 BK316 BK323 HB GG43 HQ45 HQ49 hf43_0 hx330_0 hx43_0 hHeld ⊢
                  refine pure_ (i := 0) (N := some 58) (v := ?_) (a' := ?_) #[true, false, false, false, false, false, false, false, false, false, false, false, false, false, false, false, false] rfl rfl (any_of HT_.out (by kernel_rfl)) (fun _ _ _ h => h) (Or.inl ⟨by rfl, ?_⟩) ?_ ?_
                  rotate_left
                  ·intro w'
                   go_simp
                   with_reducible rfl
                  rotate_left
                  ·simp only [Act.put, List.setIfInBounds_toArray, List.set_cons_zero, List.set_cons_succ, i64_w, i32_w]
                   rfl
                  refine pure_ (i := 2) (N := some 60) (v := ?_) (a' := ?_) #[true, false, true, false, false, false, false, false, false, false, false, false, false, false, false, false, false] rfl rfl (any_of HT_.out (by kernel_rfl)) (fun _ _ _ h => h) (Or.inl ⟨by rfl, ?_⟩) ?_ ?_
                  rotate_left
                  ·intro w'
                   go_simp
                   with_reducible rfl
                  rotate_left
                  ·simp only [Act.put, List.setIfInBounds_toArray, List.set_cons_zero, List.set_cons_succ, i64_w, i32_w]
                   rfl
                  refine pure_ (i := 3) (N := some 61) (v := ?_) (a' := ?_) #[true, false, true, true, false, false, false, false, false, false, false, false, false, false, false, false, false] rfl rfl (any_of HT_.out (by kernel_rfl)) (fun _ _ _ h => h) (Or.inl ⟨by rfl, ?_⟩) ?_ ?_
                  rotate_left
                  ·intro w'
                   go_simp
                   with_reducible rfl
                  rotate_left
                  ·simp only [Act.put, List.setIfInBounds_toArray, List.set_cons_zero, List.set_cons_succ, i64_w, i32_w]
                   rfl
                  refine pure_ (i := 4) (N := some 62) (v := ?_) (a' := ?_) #[true, false, true, true, true, false, false, false, false, false, false, false, false, false, false, false, false] rfl rfl (any_of HT_.out (by kernel_rfl)) (fun _ _ _ h => h) (Or.inl ⟨by rfl, ?_⟩) ?_ ?_
                  rotate_left
                  ·intro w'
                   go_simp
                   with_reducible rfl
                  rotate_left
                  ·simp only [Act.put, List.setIfInBounds_toArray, List.set_cons_zero, List.set_cons_succ, i64_w, i32_w]
                   rfl
                  refine pure_ (i := 5) (N := some 63) (v := ?_) (a' := ?_) #[true, false, true, true, true, true, false, false, false, false, false, false, false, false, false, false, false] rfl rfl (any_of HT_.out (by kernel_rfl)) (fun _ _ _ h => h) (Or.inl ⟨by rfl, ?_⟩) ?_ ?_
                  rotate_left
                  ·intro w'
                   go_simp
                   with_reducible rfl
                  rotate_left
                  ·simp only [Act.put, List.setIfInBounds_toArray, List.set_cons_zero, List.set_cons_succ, i64_w, i32_w]
                   rfl
                  refine pure_ (i := 6) (N := some 64) (v := ?_) (a' := ?_) #[true, false, true, true, true, true, true, false, false, false, false, false, false, false, false, false, false] rfl rfl (any_of HT_.out (by kernel_rfl)) (fun _ _ _ h => h) (Or.inl ⟨by rfl, ?_⟩) ?_ ?_
                  rotate_left
                  ·intro w'
                   go_simp
                   with_reducible rfl
                  rotate_left
                  ·simp only [Act.put, List.setIfInBounds_toArray, List.set_cons_zero, List.set_cons_succ, i64_w, i32_w]
                   rfl
                  refine pure_ (i := 7) (N := some 65) (v := ?_) (a' := ?_) #[true, false, true, true, true, true, true, true, false, false, false, false, false, false, false, false, false] rfl rfl (any_of HT_.out (by kernel_rfl)) (fun _ _ _ h => h) (Or.inl ⟨by rfl, ?_⟩) ?_ ?_
                  rotate_left
                  ·intro w'
                   go_simp
                   with_reducible rfl
                  rotate_left
                  ·simp only [Act.put, List.setIfInBounds_toArray, List.set_cons_zero, List.set_cons_succ, i64_w, i32_w]
                   rfl
                  refine pure_ (i := 8) (N := some 66) (v := ?_) (a' := ?_) #[true, false, true, true, true, true, true, true, true, false, false, false, false, false, false, false, false] rfl rfl (any_of HT_.out (by kernel_rfl)) (fun _ _ _ h => h) (Or.inl ⟨by rfl, ?_⟩) ?_ ?_
                  rotate_left
                  ·intro w'
                   go_simp
                   with_reducible rfl
                  rotate_left
                  ·simp only [Act.put, List.setIfInBounds_toArray, List.set_cons_zero, List.set_cons_succ, i64_w, i32_w]
                   rfl
                  refine pure_ (i := 9) (N := some 67) (v := ?_) (a' := ?_) #[true, false, true, true, true, true, true, true, true, true, false, false, false, false, false, false, false] rfl rfl (any_of HT_.out (by kernel_rfl)) (fun _ _ _ h => h) (Or.inl ⟨by rfl, ?_⟩) ?_ ?_
                  rotate_left
                  ·intro w'
                   go_simp
                   with_reducible rfl
                  rotate_left
                  ·simp only [Act.put, List.setIfInBounds_toArray, List.set_cons_zero, List.set_cons_succ, i64_w, i32_w]
                   rfl
                  refine pure_ (i := 10) (N := some 68) (v := ?_) (a' := ?_) #[true, false, true, true, true, true, true, true, true, true, true, false, false, false, false, false, false] rfl rfl (any_of HT_.out (by kernel_rfl)) (fun _ _ _ h => h) (Or.inl ⟨by rfl, ?_⟩) ?_ ?_
                  rotate_left
                  ·intro w'
                   go_simp
                   with_reducible rfl
                  rotate_left
                  ·simp only [Act.put, List.setIfInBounds_toArray, List.set_cons_zero, List.set_cons_succ, i64_w, i32_w]
                   rfl
                  refine pure_ (i := 11) (N := some 69) (v := ?_) (a' := ?_) #[true, false, true, true, true, true, true, true, true, true, true, true, false, false, false, false, false] rfl rfl (any_of HT_.out (by kernel_rfl)) (fun _ _ _ h => h) (Or.inl ⟨by rfl, ?_⟩) ?_ ?_
                  rotate_left
                  ·intro w'
                   go_simp
                   with_reducible rfl
                  rotate_left
                  ·simp only [Act.put, List.setIfInBounds_toArray, List.set_cons_zero, List.set_cons_succ, i64_w, i32_w]
                   rfl
                  refine pure_ (i := 12) (N := some 70) (v := ?_) (a' := ?_) #[true, false, true, true, true, true, true, true, true, true, true, true, true, false, false, false, false] rfl rfl (any_of HT_.out (by kernel_rfl)) (fun _ _ _ h => h) (Or.inl ⟨by rfl, ?_⟩) ?_ ?_
                  rotate_left
                  ·intro w'
                   go_simp
                   with_reducible rfl
                  rotate_left
                  ·simp only [Act.put, List.setIfInBounds_toArray, List.set_cons_zero, List.set_cons_succ, i64_w, i32_w]
                   rfl
                  refine take_ (i := 1) (N := some 59) (v := ?_) (a' := ?_) #[true, true, true, true, true, true, true, true, true, true, true, true, true, false, false, false, false] rfl rfl (take_ofW HT_.out HW_.out (by kernel_rfl)) (fun _ _ _ h => h) (Or.inl ⟨by rfl, ?_⟩) hHeld ?_ ?_
                  rotate_left
                  ·rintro w' ⟨s0, s1, s2⟩
                   go_simp
                   with_reducible rfl
                  rotate_left
                  ·simp only [Act.put, List.setIfInBounds_toArray, List.set_cons_zero, List.set_cons_succ, i64_w, i32_w]
                   rfl
                  refine take_ (i := 13) (N := some 71) (v := ?_) (a' := ?_) #[true, true, true, true, true, true, true, true, true, true, true, true, true, true, false, false, false] rfl rfl (take_ofW HT_.out HW_.out (by kernel_rfl)) (fun _ _ _ h => h) (Or.inl ⟨by rfl, ?_⟩) hHeld ?_ ?_
                  rotate_left
                  ·rintro w' ⟨s0, s1, s2⟩
                   go_simp
                   with_reducible rfl
                  rotate_left
                  ·simp only [Act.put, List.setIfInBounds_toArray, List.set_cons_zero, List.set_cons_succ, i64_w, i32_w]
                   rfl
                  refine pure_ (i := 14) (N := some 72) (v := ?_) (a' := ?_) #[true, true, true, true, true, true, true, true, true, true, true, true, true, true, true, false, false] rfl rfl (any_of HT_.out (by kernel_rfl)) (fun _ _ _ h => h) (Or.inl ⟨by rfl, ?_⟩) ?_ ?_
                  rotate_left
                  ·intro w'
                   go_simp
                   with_reducible rfl
                  rotate_left
                  ·simp only [Act.put, List.setIfInBounds_toArray, List.set_cons_zero, List.set_cons_succ, i64_w, i32_w]
                   rfl
                  refine pure_ (i := 15) (N := some 73) (v := ?_) (a' := ?_) #[true, true, true, true, true, true, true, true, true, true, true, true, true, true, true, true, false] rfl rfl (any_of HT_.out (by kernel_rfl)) (fun _ _ _ h => h) (Or.inl ⟨by rfl, ?_⟩) ?_ ?_
                  rotate_left
                  ·intro w'
                   go_simp
                   with_reducible rfl
                  rotate_left
                  ·simp only [Act.put, List.setIfInBounds_toArray, List.set_cons_zero, List.set_cons_succ, i64_w, i32_w]
                   rfl
                  refine last_ (i := 16) (N := none) #[true, true, true, true, true, true, true, true, true, true, true, true, true, true, true, true, true] rfl rfl (one_of HT_.out (by kernel_rfl)) (by decide) (fun K hK => ?_)
                  refine skip_ (w1 := ?_) (by rfl) rfl ?_ ?_
                  rotate_left
                  ·go_simp
                   rfl
                  refine hK.out _ _ ?_
                  clear hK K
                  refine done_ (done_of HT_.out (by kernel_rfl)) ?_
                  try go_wp2
                  go_roundg k2
                  case measure => have := HK1.out; have := HK2.out; omega
                  case rel => exact ⟨(x10_2), (wrap64 (x38_2 + 1)), (y329), (y331), (.slice (some ⟨go39, 0, none⟩) x324000_2.length co39), (.slice (some ⟨go43, 0, none⟩) x324001_2.length co43), (by first | rfl | (simp; done) | (simp [*]; done)), H', ⟨by have := HK1.out; have := HK2.out; omega⟩, ⟨by (with_reducible repeat (first | apply Kd.V_alloc | apply Kd.V_drewN | apply Kd.V_drew)); exact Kd.V_mono (Kd.V_far (p := ⟨go43, ((ji36) : Int).toNat, none⟩) (Kd.V_mono HO_10.out (fun k_ hk => (⟨hk, fun e_ => hk.2.1 (by rw [e_]; rfl)⟩ : _ ∧ k_ ≠ go43))) (fun _ hk => hk.2) (.int .i64 (wrap64 ((wrap64 (a1 * (rd l0_1 x28_1))) + (rd x10_2 x38_2))))) (fun _ hk => ⟨hk.1.1, ⟨hk.1.2.1, ⟨hk.1.2.2.1, ⟨hk.1.2.2.2.1, hk.1.2.2.2.2⟩⟩⟩⟩)⟩, ⟨by (with_reducible repeat (first | apply rA | apply rN | apply rD)); exact rM (rF (p := ⟨go43, ((ji36) : Int).toNat, none⟩) (rM HO_324000.out (fun k_ hk => (⟨hk, fun e_ => hk (by rw [e_]; rfl)⟩ : _ ∧ k_ ≠ go43))) (fun _ hk => hk.2) (.int .i64 (wrap64 ((wrap64 (a1 * (rd l0_1 x28_1))) + (rd x10_2 x38_2))))) (fun _ hk => hk.1)⟩, ⟨by (with_reducible repeat (first | apply rA | apply rN | apply rD)); exact HQ49.out⟩, ⟨by (with_reducible repeat (first | refine kN ?_ _ | refine kD ?_ | refine kA ?_ _)); refine blk_far ?_ (by have h_ := Kd.R_ne HO_324001.out BK315.out (by decide); intro e_; exact h_ (by rw [e_]; rfl)) _; (with_reducible repeat (first | refine kN ?_ _ | refine kD ?_ | refine kA ?_ _)); exact BK315.out⟩, ⟨by (with_reducible repeat (first | refine kN ?_ _ | refine kD ?_ | refine kA ?_ _)); refine blk_far ?_ (by have h_ := Kd.R_ne HO_324001.out BK316.out (by decide); intro e_; exact h_ (by rw [e_]; rfl)) _; (with_reducible repeat (first | refine kN ?_ _ | refine kD ?_ | refine kA ?_ _)); exact BK316.out⟩, ⟨by (with_reducible repeat (first | refine kN ?_ _ | refine kD ?_ | refine kA ?_ _)); refine blk_far ?_ (by have h_ := Kd.R_ne HO_324001.out BK323.out (by decide); intro e_; exact h_ (by rw [e_]; rfl)) _; (with_reducible repeat (first | refine kN ?_ _ | refine kD ?_ | refine kA ?_ _)); exact BK323.out⟩, ⟨by repeat (first | (with_reducible first | exact HB.out | apply bA | apply bN | apply bD | refine bS ?_ GB43.out | refine bS ?_ GE315.out | refine bS ?_ GE316.out | refine bS ?_ GE323.out) | exact HB.out)⟩⟩
                 ·rw [if_neg c42] at H
                  exact absurd H (by simp)
                ·rw [if_neg c41] at H
                 exact absurd H (by simp)
               ·rw [if_neg c40] at H
                exact absurd H (by simp)
              ·rw [if_neg c38] at H
               exact absurd H (by simp)
             ·rw [if_neg c37] at H
              exact absurd H (by simp)
            ·rw [if_neg c35] at H
             exact absurd H (by simp)
           ·rw [if_neg c34] at H
            exact absurd H (by simp)
          ·rw [if_neg c33] at H
           have c33b0 : decide (x38_2 < a1) = false := dF c33
           clear c33
           have H' := A0_ H
           clear H
           go_wp2
           go_roundg k2
           case measure => have := HK1.out; have := HK2.out; omega
           case rel => exact ⟨(wrap64 (x28_1 + 1)), (x324000_2), (x324001_2), (u324000), (u324001), (by first | rfl | (simp; done) | (simp [*]; done)), H', ⟨by have := HK1.out; have := HK2.out; omega⟩, ⟨by (with_reducible repeat (first | apply rA | apply rN | apply rD)); exact HO_324000.out⟩, ⟨by (with_reducible repeat (first | apply rA | apply rN | apply rD)); exact HO_324001.out⟩, ⟨by (with_reducible repeat (first | refine kN ?_ _ | refine kD ?_ | refine kA ?_ _)); exact BK315.out⟩, ⟨by (with_reducible repeat (first | refine kN ?_ _ | refine kD ?_ | refine kA ?_ _)); exact BK316.out⟩, ⟨by (with_reducible repeat (first | refine kN ?_ _ | refine kD ?_ | refine kA ?_ _)); exact BK323.out⟩, ⟨by repeat (first | (with_reducible first | exact HB.out | apply bA | apply bN | apply bD | refine bS ?_ GE315.out | refine bS ?_ GE316.out | refine bS ?_ GE323.out) | exact HB.out)⟩⟩
       ·rw [if_neg c27] at H
        exact absurd H (by simp)
      ·rw [if_neg c26] at H
       exact absurd H (by simp)
     ·rw [if_neg c25] at H
      have c25b0 : decide (x28_1 < (l0_1.length : Int)) = false := dF c25
      clear c25
      simp only [Option.some.injEq, Prod.mk.injEq] at H
      obtain ⟨rfl, rfl⟩ := H
      have hnb50 := NB323_315.out
      have hnc50 := NB315_323.out
      have hnb51 := NB323_316.out
      have hnc51 := NB316_323.out
      have hcz52_0 : wr.cell? ⟨gb323, 0, none⟩ = some (u324000) := (kC BK323.out 0).trans rfl
      have hcz52_1 : wr.cell? ⟨gb323, 1, none⟩ = some (u324001) := (kC BK323.out 1).trans rfl
      have hfz52_0 := kF BK323.out 0
      have hfz52_1 := kF BK323.out 1
      obtain ⟨Ao53, co53, eo53⟩ := rS HO_324000.out
      subst eo53
      have hnb54 := NB316_315.out
      have hnc54 := NB315_316.out
      have hcz55_0 : wr.cell? ⟨gb316, 0, none⟩ = some (.slice none 0 0) := (kC BK316.out 0).trans rfl
      have hcz55_1 : wr.cell? ⟨gb316, 1, none⟩ = some (.slice none 0 0) := (kC BK316.out 1).trans rfl
      have hfz55_0 := kF BK316.out 0
      have hfz55_1 := kF BK316.out 1
      obtain ⟨Ao56, co56, eo56⟩ := rS HO_324001.out
      subst eo56
      go_wp2
      refine bodyPost_ret (results_cell_row rfl _ _ gb316 29 #[.slice Ao53 x324000_1.length co53, .slice Ao56 x324001_1.length co56] (0, 0) _ rfl (by (with_reducible repeat (first | refine kN ?_ _ | refine kD ?_ | refine kA ?_ _)); refine blk_put (cs := #[.slice Ao53 x324000_1.length co53, .slice none 0 0]) ?_ 1 _ rfl; (with_reducible repeat (first | refine kN ?_ _ | refine kD ?_ | refine kA ?_ _)); refine blk_put (cs := #[.slice none 0 0, .slice none 0 0]) ?_ 0 _ rfl; (with_reducible repeat (first | refine kN ?_ _ | refine kD ?_ | refine kA ?_ _)); exact BK316.out) Try.underlying29 rfl (by kernel_rfl)) rfl ?_
      exact ⟨_, _, by first | rfl | (simp [errW_none, errW_some] <;> rfl) | (simp only [← hji4]; first | rfl | (simp [errW_none, errW_some] <;> rfl)) | (simp [*, errW_none, errW_some] <;> rfl), by (with_reducible repeat (first | apply rA | apply rN | apply rD)); exact rM (rF (p := ⟨gb316, 1, none⟩) (rF (p := ⟨gb316, 0, none⟩) (rY HO_324000.out BK316.out (by decide)) (fun _ hk => hk.2) (.slice Ao53 x324000_1.length co53)) (fun _ hk => hk.2) (.slice Ao56 x324001_1.length co56)) (fun _ hk => hk.1), by (with_reducible repeat (first | apply rA | apply rN | apply rD)); exact rM (rF (p := ⟨gb316, 1, none⟩) (rF (p := ⟨gb316, 0, none⟩) (rY HO_324001.out BK316.out (by decide)) (fun _ hk => hk.2) (.slice Ao53 x324000_1.length co53)) (fun _ hk => hk.2) (.slice Ao56 x324001_1.length co56)) (fun _ hk => hk.1), by repeat (first | (with_reducible first | exact HB.out | apply bA | apply bN | apply bD | refine bS ?_ GE315.out | refine bS ?_ GE316.out | refine bS ?_ GE323.out) | exact HB.out)⟩
  ·rw [if_neg c6] at H
   exact absurd H (by simp)
 ·rw [if_neg c5] at H
  exact absurd H (by simp)

end Go.Proofs.Ytmcgkckdnelcdaa.PFnExactCoverMap
